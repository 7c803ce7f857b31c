/- A part of the proof of RowFnExactShowOutcome: each text's theorems that it needs, packed by shake.py, a program of this work; Lean checks them. -/
import Derived.Test.YtidgimpdjfmbnaaDoorSho2
import Derived.Test.YtidgimpdjfmbnaaDoorSho4
import Derived.Test.YtidgimpdjfmbnaaDoorSho5
import Derived.Test.YtidgimpdjfmbnaaDoorSho7
import Derived.Test.YtidgimpdjfmbnaaDoorSho9
import Derived.Test.YtidgimpdjfmbnaaDoorSho13
section
namespace Go.Proofs.YtidgimpdjfmbnaaDoor.Gp
open Go.RowKit Go.Proofs.YtidgimpdjfmbnaaDoorW.PrintWords Go.Proofs.YtidgimpdjfmbnaaDoorW.PrintLast Go.Proofs.YtidgimpdjfmbnaaDoorW.PrintMore
set_option linter.unusedVariables false
set_option linter.unusedSimpArgs false
def laws_FnExactShowOutcome.f (k : Nat) (a0_0 : Int) (l0_1 : List (S129)) (l0_2 : List (S133)) (a0_3 : Int) (a0_4 : Int) (a0_5 : Int) (l0_6 : List (S182)) : Option (Bool) := (laws_szOutcome.f k a0_0 l0_1 l0_2 a0_3 a0_4 a0_5 l0_6 1048576).bind fun t300 => (if t300 < 0 then (some true) else ((laws_toOutcome.f k a0_0 l0_1 l0_2 a0_3 a0_4 a0_5 l0_6).bind fun bt301 => ((spec_ShowOutcome.f k bt301.1 bt301.2.1 bt301.2.2.1 bt301.2.2.2.1 bt301.2.2.2.2.1 bt301.2.2.2.2.2.1 bt301.2.2.2.2.2.2).bind fun t314 => ((laws_toOutcome.f k a0_0 l0_1 l0_2 a0_3 a0_4 a0_5 l0_6).bind fun bt315 => ((impl_ShowOutcome.f bt315.1 bt315.2.1 bt315.2.2.1 bt315.2.2.2.1 bt315.2.2.2.2.1 bt315.2.2.2.2.2.1 bt315.2.2.2.2.2.2).bind fun t329 => (if t329.toList = t314.toList then ((laws_toOutcome.f k a0_0 l0_1 l0_2 a0_3 a0_4 a0_5 l0_6).bind fun bt330 => ((laws_eqOutcome.f k bt315.1 bt315.2.1 bt315.2.2.1 bt315.2.2.2.1 bt315.2.2.2.2.1 bt315.2.2.2.2.2.1 bt315.2.2.2.2.2.2 bt330.1 bt330.2.1 bt330.2.2.1 bt330.2.2.2.1 bt330.2.2.2.2.1 bt330.2.2.2.2.2.1 bt330.2.2.2.2.2.2).bind fun t343 => (if t343 = true then (some true) else (some false)))) else (some false)))))))
set_option maxHeartbeats 8000000 in
set_option maxRecDepth 100000 in
theorem laws_FnExactShowOutcome.calls (k : Nat) (a0_0 : Int) (A0_1 : Option Addr) (c0_1 : Nat) (l0_1 : List (S129)) (A0_2 : Option Addr) (c0_2 : Nat) (l0_2 : List (S133)) (a0_3 : Int) (a0_4 : Int) (a0_5 : Int) (A0_6 : Option Addr) (c0_6 : Nat) (l0_6 : List (S182)) (r : Bool) (w : World) (hG : GPow w) (hr0_1 : Kd.C k129 w A0_1 l0_1.length l0_1) (hc0_1 : l0_1.length ≤ c0_1) (hr0_2 : Kd.C k133 w A0_2 l0_2.length l0_2) (hc0_2 : l0_2.length ≤ c0_2) (hr0_6 : Kd.C k182 w A0_6 l0_6.length l0_6) (hc0_6 : l0_6.length ≤ c0_6) (h : laws_FnExactShowOutcome.f k a0_0 l0_1 l0_2 a0_3 a0_4 a0_5 l0_6 = some r) :
    Calls Tryd.prog 3 #[.agg #[.int .i64 a0_0, .slice A0_1 l0_1.length c0_1, .slice A0_2 l0_2.length c0_2, .int .i64 a0_3, .int .i64 a0_4, .int .i64 a0_5, .slice A0_6 l0_6.length c0_6]] w fun e w' => e = .returned (.bool r) ∧ Below w.heap.size w w' := by
  have hu28 := Tryd.underlying28
  have hu37 := Tryd.underlying37
  have HG := Aside0.mk hG
  clear hG
  have HR0_1 := Aside0.mk hr0_1
  have HC0_1 := Aside0.mk hc0_1
  clear hr0_1 hc0_1
  have HR0_2 := Aside0.mk hr0_2
  have HC0_2 := Aside0.mk hc0_2
  clear hr0_2 hc0_2
  have HR0_6 := Aside0.mk hr0_6
  have HC0_6 := Aside0.mk hc0_6
  clear hr0_6 hc0_6
  have HB := Aside0.mk (Below.refl w.heap.size w)
  have H : ((laws_szOutcome.f k a0_0 l0_1 l0_2 a0_3 a0_4 a0_5 l0_6 1048576).bind fun t300 => (if t300 < 0 then (some true) else ((laws_toOutcome.f k a0_0 l0_1 l0_2 a0_3 a0_4 a0_5 l0_6).bind fun bt301 => ((spec_ShowOutcome.f k bt301.1 bt301.2.1 bt301.2.2.1 bt301.2.2.2.1 bt301.2.2.2.2.1 bt301.2.2.2.2.2.1 bt301.2.2.2.2.2.2).bind fun t314 => ((laws_toOutcome.f k a0_0 l0_1 l0_2 a0_3 a0_4 a0_5 l0_6).bind fun bt315 => ((impl_ShowOutcome.f bt315.1 bt315.2.1 bt315.2.2.1 bt315.2.2.2.1 bt315.2.2.2.2.1 bt315.2.2.2.2.2.1 bt315.2.2.2.2.2.2).bind fun t329 => (if t329.toList = t314.toList then ((laws_toOutcome.f k a0_0 l0_1 l0_2 a0_3 a0_4 a0_5 l0_6).bind fun bt330 => ((laws_eqOutcome.f k bt315.1 bt315.2.1 bt315.2.2.1 bt315.2.2.2.1 bt315.2.2.2.2.1 bt315.2.2.2.2.2.1 bt315.2.2.2.2.2.2 bt330.1 bt330.2.1 bt330.2.2.1 bt330.2.2.2.1 bt330.2.2.2.2.1 bt330.2.2.2.2.2.1 bt330.2.2.2.2.2.2).bind fun t343 => (if t343 = true then (some true) else (some false)))) else (some false)))))))) = some r := h
  clear h
  replace H := Option.bind_eq_some_iff.mp H
  obtain ⟨t300, A20, H⟩ := H
  replace H : (if t300 < 0 then (some true) else ((laws_toOutcome.f k a0_0 l0_1 l0_2 a0_3 a0_4 a0_5 l0_6).bind fun bt301 => ((spec_ShowOutcome.f k bt301.1 bt301.2.1 bt301.2.2.1 bt301.2.2.2.1 bt301.2.2.2.2.1 bt301.2.2.2.2.2.1 bt301.2.2.2.2.2.2).bind fun t314 => ((laws_toOutcome.f k a0_0 l0_1 l0_2 a0_3 a0_4 a0_5 l0_6).bind fun bt315 => ((impl_ShowOutcome.f bt315.1 bt315.2.1 bt315.2.2.1 bt315.2.2.2.1 bt315.2.2.2.2.1 bt315.2.2.2.2.2.1 bt315.2.2.2.2.2.2).bind fun t329 => (if t329.toList = t314.toList then ((laws_toOutcome.f k a0_0 l0_1 l0_2 a0_3 a0_4 a0_5 l0_6).bind fun bt330 => ((laws_eqOutcome.f k bt315.1 bt315.2.1 bt315.2.2.1 bt315.2.2.2.1 bt315.2.2.2.2.1 bt315.2.2.2.2.2.1 bt315.2.2.2.2.2.2 bt330.1 bt330.2.1 bt330.2.2.1 bt330.2.2.2.1 bt330.2.2.2.2.1 bt330.2.2.2.2.2.1 bt330.2.2.2.2.2.2).bind fun t343 => (if t343 = true then (some true) else (some false)))) else (some false))))))) = some r := H
  have A2 := Aside0.mk A20
  clear A20
  have HL3 := Aside0.mk H
  clear H
  go_enter Tryd.func3, Tryd.ntmps3
  go_upto_if 11 with (first | ((with_reducible refine gate_dst (N := 1) rfl ?_); refine box_event ?hg (N := 1) ?hd (cs := #[.int .i64 a0_0, .slice A0_1 l0_1.length c0_1, .slice A0_2 l0_2.length c0_2, .int .i64 a0_3, .int .i64 a0_4, .int .i64 a0_5, .slice A0_6 l0_6.length c0_6]) (t := 28) ?hr ?_; (case hd => rfl); (case hg => rfl); (case hr => first | (go_simp; done) | (go_simp; rfl)); intro gb299 hg w4 hbox hb; have hb1_ := fromP HB.out hb (by repeat (first | (with_reducible exact Below.refl _ _) | apply below_alloc | apply pw_below_drewN | apply below_drew1)); have hb0_ := below_step hb1_ hb; have hW_ := below_step HB.out hb1_; have n1_ := Aside0.mk (hbox); have n2_ := Aside0.mk ((by rw [hg]; exact (below_size hW_) : w.heap.size ≤ gb299)); have n3_ := Aside0.mk ((by rw [hg]; exact (below_size hW_) : w.heap.size ≤ gb299)); replace HB := kH HB hb0_; have BK299 := n1_; have GW299 := n2_; have GE299 := n3_; clear hb1_ hb0_ hW_ n1_ n2_ n3_; clear hb hbox hg; obtain ⟨hcz5_0, hcz5_1, hcz5_2, hcz5_3, hcz5_4, hcz5_5, hcz5_6, hfz5_0, hfz5_1, hfz5_2, hfz5_3, hfz5_4, hfz5_5, hfz5_6⟩ := bkA7 BK299.out) | ((with_reducible refine gate_callee (f := 9) rfl ?_); refine goesL_ (some 9) rfl rfl Tryd.func9 (by kernel_rfl) rfl #[.agg #[.int .i64 a0_0, .slice A0_1 l0_1.length c0_1, .slice A0_2 l0_2.length c0_2, .int .i64 a0_3, .int .i64 a0_4, .int .i64 a0_5, .slice A0_6 l0_6.length c0_6], .int .i64 1048576] rfl (by (try simp only [List.map_toArray, List.map_cons, List.map_nil]); first | done | rfl | (simp only [List.length_drop, List.length_take]; rfl)) ?_; (with_reducible refine (laws_szOutcome.calls k a0_0 _ _ l0_1 _ _ l0_2 a0_3 a0_4 a0_5 _ _ l0_6 1048576 t300 _ ?side1 ?side2 ?side3 ?side4 ?side5 ?side6 A2.out).mono ?_); (case side1 => repeat (first | exact (Kd.C_below HR0_1.out HB.out) | (with_reducible refine Kd.C_alloc ?_ _) | (with_reducible refine Kd.C_drewN ?_ _) | (with_reducible refine Kd.C_drew ?_))); (case side2 => exact HC0_1.out); (case side3 => repeat (first | exact (Kd.C_below HR0_2.out HB.out) | (with_reducible refine Kd.C_alloc ?_ _) | (with_reducible refine Kd.C_drewN ?_ _) | (with_reducible refine Kd.C_drew ?_))); (case side4 => exact HC0_2.out); (case side5 => repeat (first | exact (Kd.C_below HR0_6.out HB.out) | (with_reducible refine Kd.C_alloc ?_ _) | (with_reducible refine Kd.C_drewN ?_ _) | (with_reducible refine Kd.C_drew ?_))); (case side6 => exact HC0_6.out); rintro e w6 ⟨rfl, hb⟩; refine ⟨_, rfl, ?_⟩; have hb1_ := fromP HB.out hb (by repeat (first | (with_reducible exact Below.refl _ _) | apply below_alloc | apply pw_below_drewN | apply below_drew1)); have hb0_ := below_step hb1_ hb; replace BK299 := kB BK299 hb0_; replace HB := kH HB hb0_; clear hb1_ hb0_; (try clear hb); (try clear hb2); (try clear hk); (try clear hi)))
  have H := HL3.out
  clear HL3
  by_cases c7 : t300 < 0
  · rw [if_pos c7] at H
    have c7b0 : decide (t300 < 0) = true := decide_eq_true c7
    clear c7
    (first | rw [c7b0] | (simp only [i64_w, i32_w]; rw [c7b0]) | simp only [c7b2, Bool.not_false, Bool.not_true] | skip)
    obtain rfl := Option.some.inj H
    go_wp2
    go_ret
    exact ⟨by first | rfl | (simp [errW_none, errW_some] <;> rfl) | (simp [*, errW_none, errW_some] <;> rfl), by repeat (first | (with_reducible first | exact HB.out | apply below_alloc | apply pw_below_drewN | apply below_drew1 | refine below_set ?_ GE299.out) | exact HB.out)⟩
  · rw [if_neg c7] at H
    have c7b0 : decide (t300 < 0) = false := decide_eq_false c7
    clear c7
    (first | rw [c7b0] | (simp only [i64_w, i32_w]; rw [c7b0]) | simp only [c7b2, Bool.not_false, Bool.not_true] | skip)
    replace H := Option.bind_eq_some_iff.mp H
    obtain ⟨⟨t301, t302, t305, t308, t309, t310, t311⟩, A80, H⟩ := H
    replace H : ((spec_ShowOutcome.f k t301 t302 t305 t308 t309 t310 t311).bind fun t314 => ((laws_toOutcome.f k a0_0 l0_1 l0_2 a0_3 a0_4 a0_5 l0_6).bind fun bt315 => ((impl_ShowOutcome.f bt315.1 bt315.2.1 bt315.2.2.1 bt315.2.2.2.1 bt315.2.2.2.2.1 bt315.2.2.2.2.2.1 bt315.2.2.2.2.2.2).bind fun t329 => (if t329.toList = t314.toList then ((laws_toOutcome.f k a0_0 l0_1 l0_2 a0_3 a0_4 a0_5 l0_6).bind fun bt330 => ((laws_eqOutcome.f k bt315.1 bt315.2.1 bt315.2.2.1 bt315.2.2.2.1 bt315.2.2.2.2.1 bt315.2.2.2.2.2.1 bt315.2.2.2.2.2.2 bt330.1 bt330.2.1 bt330.2.2.1 bt330.2.2.2.1 bt330.2.2.2.2.1 bt330.2.2.2.2.2.1 bt330.2.2.2.2.2.2).bind fun t343 => (if t343 = true then (some true) else (some false)))) else (some false))))) = some r := H
    have A8 := Aside0.mk A80
    clear A80
    replace H := Option.bind_eq_some_iff.mp H
    obtain ⟨t314, A90, H⟩ := H
    replace H : ((laws_toOutcome.f k a0_0 l0_1 l0_2 a0_3 a0_4 a0_5 l0_6).bind fun bt315 => ((impl_ShowOutcome.f bt315.1 bt315.2.1 bt315.2.2.1 bt315.2.2.2.1 bt315.2.2.2.2.1 bt315.2.2.2.2.2.1 bt315.2.2.2.2.2.2).bind fun t329 => (if t329.toList = t314.toList then ((laws_toOutcome.f k a0_0 l0_1 l0_2 a0_3 a0_4 a0_5 l0_6).bind fun bt330 => ((laws_eqOutcome.f k bt315.1 bt315.2.1 bt315.2.2.1 bt315.2.2.2.1 bt315.2.2.2.2.1 bt315.2.2.2.2.2.1 bt315.2.2.2.2.2.2 bt330.1 bt330.2.1 bt330.2.2.1 bt330.2.2.2.1 bt330.2.2.2.2.1 bt330.2.2.2.2.2.1 bt330.2.2.2.2.2.2).bind fun t343 => (if t343 = true then (some true) else (some false)))) else (some false)))) = some r := H
    have A9 := Aside0.mk A90
    clear A90
    replace H := Option.bind_eq_some_iff.mp H
    obtain ⟨⟨t315, t316, t319, t322, t323, t324, t325⟩, A100, H⟩ := H
    replace H : ((impl_ShowOutcome.f t315 t316 t319 t322 t323 t324 t325).bind fun t329 => (if t329.toList = t314.toList then ((laws_toOutcome.f k a0_0 l0_1 l0_2 a0_3 a0_4 a0_5 l0_6).bind fun bt330 => ((laws_eqOutcome.f k t315 t316 t319 t322 t323 t324 t325 bt330.1 bt330.2.1 bt330.2.2.1 bt330.2.2.2.1 bt330.2.2.2.2.1 bt330.2.2.2.2.2.1 bt330.2.2.2.2.2.2).bind fun t343 => (if t343 = true then (some true) else (some false)))) else (some false))) = some r := H
    have A10 := Aside0.mk A100
    clear A100
    replace H := Option.bind_eq_some_iff.mp H
    obtain ⟨t329, A110, H⟩ := H
    replace H : (if t329.toList = t314.toList then ((laws_toOutcome.f k a0_0 l0_1 l0_2 a0_3 a0_4 a0_5 l0_6).bind fun bt330 => ((laws_eqOutcome.f k t315 t316 t319 t322 t323 t324 t325 bt330.1 bt330.2.1 bt330.2.2.1 bt330.2.2.2.1 bt330.2.2.2.2.1 bt330.2.2.2.2.2.1 bt330.2.2.2.2.2.2).bind fun t343 => (if t343 = true then (some true) else (some false)))) else (some false)) = some r := H
    have A11 := Aside0.mk A110
    clear A110
    have HL12 := Aside0.mk H
    clear H
    obtain ⟨hcz13_0, hcz13_1, hcz13_2, hcz13_3, hcz13_4, hcz13_5, hcz13_6, hfz13_0, hfz13_1, hfz13_2, hfz13_3, hfz13_4, hfz13_5, hfz13_6⟩ := bkA7 BK299.out
    go_upto_if 21 with (first | ((with_reducible refine gate_callee (f := 11) rfl ?_); refine goesL_ (some 13) rfl rfl Tryd.func11 (by kernel_rfl) rfl #[.agg #[.int .i64 a0_0, .slice A0_1 l0_1.length c0_1, .slice A0_2 l0_2.length c0_2, .int .i64 a0_3, .int .i64 a0_4, .int .i64 a0_5, .slice A0_6 l0_6.length c0_6]] rfl (by (try simp only [List.map_toArray, List.map_cons, List.map_nil]); first | done | rfl | (simp only [List.length_drop, List.length_take]; rfl)) ?_; (with_reducible refine (laws_toOutcome.calls k a0_0 _ _ l0_1 _ _ l0_2 a0_3 a0_4 a0_5 _ _ l0_6 t301 t302 t305 t308 t309 t310 t311 _ ?side1 ?side2 ?side3 ?side4 ?side5 ?side6 A8.out).mono ?_); (case side1 => repeat (first | exact (Kd.C_below HR0_1.out HB.out) | (with_reducible refine Kd.C_alloc ?_ _) | (with_reducible refine Kd.C_drewN ?_ _) | (with_reducible refine Kd.C_drew ?_))); (case side2 => exact HC0_1.out); (case side3 => repeat (first | exact (Kd.C_below HR0_2.out HB.out) | (with_reducible refine Kd.C_alloc ?_ _) | (with_reducible refine Kd.C_drewN ?_ _) | (with_reducible refine Kd.C_drew ?_))); (case side4 => exact HC0_2.out); (case side5 => repeat (first | exact (Kd.C_below HR0_6.out HB.out) | (with_reducible refine Kd.C_alloc ?_ _) | (with_reducible refine Kd.C_drewN ?_ _) | (with_reducible refine Kd.C_drew ?_))); (case side6 => exact HC0_6.out); rintro e w14 ⟨v303, v306, v312, rfl, ho0, ho1, ho2, hb⟩; refine ⟨_, rfl, ?_⟩; have hb1_ := fromP HB.out hb (by repeat (first | (with_reducible exact Below.refl _ _) | apply below_alloc | apply pw_below_drewN | apply below_drew1)); have hb0_ := below_step hb1_ hb; have hW_ := below_step HB.out hb1_; have n0_ := Aside0.mk (Kd.S_lower ho0 (below_size hW_)); have n1_ := Aside0.mk (Kd.R_lower ho1 (below_size hW_)); have n2_ := Aside0.mk (Kd.S_lower ho2 (below_size hW_)); replace BK299 := kB BK299 hb0_; replace HB := kH HB hb0_; have HO304 := n0_; have HO307 := n1_; have HO313 := n2_; clear hb1_ hb0_ hW_ n0_ n1_ n2_; (try clear hb); (try clear hb2); (try clear hk); (try clear hi); (try clear ho0); (try clear ho1); (try clear ho2); obtain ⟨Ao15, co15, eo15⟩ := Kd.S_slice HO304.out; subst eo15; obtain ⟨Ao16, co16, eo16⟩ := Kd.R_slice HO307.out; subst eo16; obtain ⟨Ao17, co17, eo17⟩ := Kd.S_slice HO313.out; subst eo17) | ((with_reducible refine gate_callee (f := 10) rfl ?_); refine goesL_ (some 14) rfl rfl Tryd.func10 (by kernel_rfl) rfl #[.agg #[.int .i64 t301, .slice Ao15 t302.length co15, .slice Ao16 t305.length co16, .int .i64 t308, .int .i64 t309, .int .i64 t310, .slice Ao17 t311.length co17]] rfl (by (try simp only [List.map_toArray, List.map_cons, List.map_nil]); first | done | rfl | (simp only [List.length_drop, List.length_take]; rfl)) ?_; (with_reducible refine (spec_ShowOutcome.calls k t301 _ _ t302 _ _ t305 t308 t309 t310 _ _ t311 t314 _ ?side1 ?side2 ?side3 ?side4 ?side5 ?side6 A9.out).mono ?_); (case side1 => repeat (first | exact (Kd.S_reads' HO304.out).2.2 | (with_reducible refine Kd.C_alloc ?_ _) | (with_reducible refine Kd.C_drewN ?_ _) | (with_reducible refine Kd.C_drew ?_))); (case side2 => exact (Kd.S_reads' HO304.out).2.1); (case side3 => repeat (first | exact (Kd.R_reads' HO307.out).2.2 | (with_reducible refine Kd.C_alloc ?_ _) | (with_reducible refine Kd.C_drewN ?_ _) | (with_reducible refine Kd.C_drew ?_))); (case side4 => exact (Kd.R_reads' HO307.out).2.1); (case side5 => repeat (first | exact (Kd.S_reads' HO313.out).2.2 | (with_reducible refine Kd.C_alloc ?_ _) | (with_reducible refine Kd.C_drewN ?_ _) | (with_reducible refine Kd.C_drew ?_))); (case side6 => exact (Kd.S_reads' HO313.out).2.1); rintro e w18 ⟨rfl, hb⟩; refine ⟨_, rfl, ?_⟩; have hb1_ := fromP HB.out hb (by repeat (first | (with_reducible exact Below.refl _ _) | apply below_alloc | apply pw_below_drewN | apply below_drew1)); have hb0_ := below_step hb1_ hb; replace HO304 := kS HO304 hb0_; replace HO307 := kR HO307 hb0_; replace HO313 := kS HO313 hb0_; replace BK299 := kB BK299 hb0_; replace HB := kH HB hb0_; clear hb1_ hb0_; (try clear hb); (try clear hb2); (try clear hk); (try clear hi); obtain ⟨hcz19_0, hcz19_1, hcz19_2, hcz19_3, hcz19_4, hcz19_5, hcz19_6, hfz19_0, hfz19_1, hfz19_2, hfz19_3, hfz19_4, hfz19_5, hfz19_6⟩ := bkA7 BK299.out) | ((with_reducible refine gate_callee (f := 11) rfl ?_); refine goesL_ (some 16) rfl rfl Tryd.func11 (by kernel_rfl) rfl #[.agg #[.int .i64 a0_0, .slice A0_1 l0_1.length c0_1, .slice A0_2 l0_2.length c0_2, .int .i64 a0_3, .int .i64 a0_4, .int .i64 a0_5, .slice A0_6 l0_6.length c0_6]] rfl (by (try simp only [List.map_toArray, List.map_cons, List.map_nil]); first | done | rfl | (simp only [List.length_drop, List.length_take]; rfl)) ?_; (with_reducible refine (laws_toOutcome.calls k a0_0 _ _ l0_1 _ _ l0_2 a0_3 a0_4 a0_5 _ _ l0_6 t315 t316 t319 t322 t323 t324 t325 _ ?side1 ?side2 ?side3 ?side4 ?side5 ?side6 A10.out).mono ?_); (case side1 => repeat (first | exact (Kd.C_below HR0_1.out HB.out) | (with_reducible refine Kd.C_alloc ?_ _) | (with_reducible refine Kd.C_drewN ?_ _) | (with_reducible refine Kd.C_drew ?_))); (case side2 => exact HC0_1.out); (case side3 => repeat (first | exact (Kd.C_below HR0_2.out HB.out) | (with_reducible refine Kd.C_alloc ?_ _) | (with_reducible refine Kd.C_drewN ?_ _) | (with_reducible refine Kd.C_drew ?_))); (case side4 => exact HC0_2.out); (case side5 => repeat (first | exact (Kd.C_below HR0_6.out HB.out) | (with_reducible refine Kd.C_alloc ?_ _) | (with_reducible refine Kd.C_drewN ?_ _) | (with_reducible refine Kd.C_drew ?_))); (case side6 => exact HC0_6.out); rintro e w20 ⟨v317, v320, v326, rfl, ho0, ho1, ho2, hb⟩; refine ⟨_, rfl, ?_⟩; have hb1_ := fromP HB.out hb (by repeat (first | (with_reducible exact Below.refl _ _) | apply below_alloc | apply pw_below_drewN | apply below_drew1)); have hb0_ := below_step hb1_ hb; have hW_ := below_step HB.out hb1_; have n0_ := Aside0.mk (Kd.S_elder' (Kd.S_below HO304.out hb1_) (Kd.S_base ho0) hb); have n1_ := Aside0.mk (Kd.R_elder' (Kd.R_below HO307.out hb1_) (Kd.R_base ho1) hb); have n2_ := Aside0.mk (Kd.S_elder' (Kd.S_below HO313.out hb1_) (Kd.S_base ho2) hb); have n3_ := Aside0.mk (Kd.S_lower (Kd.S_new' ho0 (Kd.S_lt (Kd.S_below HO304.out hb1_))) (below_size hW_)); have n4_ := Aside0.mk (Kd.R_lower (Kd.R_new' ho1 (Kd.R_lt (Kd.R_below HO307.out hb1_))) (below_size hW_)); have n5_ := Aside0.mk (Kd.S_lower (Kd.S_new' ho2 (Kd.S_lt (Kd.S_below HO313.out hb1_))) (below_size hW_)); replace BK299 := kB BK299 hb0_; replace HB := kH HB hb0_; clear HO304 HO307 HO313; have HO304 := n0_; have HO307 := n1_; have HO313 := n2_; have HO318 := n3_; have HO321 := n4_; have HO327 := n5_; clear hb1_ hb0_ hW_ n0_ n1_ n2_ n3_ n4_ n5_; (try clear hb); (try clear hb2); (try clear hk); (try clear hi); (try clear ho0); (try clear ho1); (try clear ho2)) | ((with_reducible refine gate_dst (N := 5) rfl ?_); refine box_event ?hg (N := 5) ?hd (cs := #[.int .i64 0, .slice none 0 0, .slice none 0 0, .int .i64 0, .int .i64 0, .int .i64 0, .slice none 0 0]) (t := 37) ?hr ?_; (case hd => rfl); (case hg => rfl); (case hr => first | (go_simp; done) | (go_simp; rfl)); intro gb328 hg w21 hbox hb; have hb1_ := fromP HB.out hb (by repeat (first | (with_reducible exact Below.refl _ _) | apply below_alloc | apply pw_below_drewN | apply below_drew1)); have hb0_ := below_step hb1_ hb; have hW_ := below_step HB.out hb1_; have n8_ := Aside0.mk (hbox); have n9_ := Aside0.mk ((by rw [hg]; exact (below_size hW_) : w.heap.size ≤ gb328)); have n10_ := Aside0.mk ((by rw [hg]; exact (below_size hW_) : w.heap.size ≤ gb328)); have n11_ := Aside0.mk ((by rw [hg]; exact Nat.ne_of_lt (blk_lt (blk_below BK299.out hb1_)) : gb299 ≠ gb328)); have n12_ := Aside0.mk ((by rw [hg]; exact Nat.ne_of_gt (blk_lt (blk_below BK299.out hb1_)) : gb328 ≠ gb299)); replace HO304 := kS HO304 hb0_; replace HO307 := kR HO307 hb0_; replace HO313 := kS HO313 hb0_; replace HO318 := kS HO318 hb0_; replace HO321 := kR HO321 hb0_; replace HO327 := kS HO327 hb0_; replace BK299 := kB BK299 hb0_; replace HB := kH HB hb0_; have BK328 := n8_; have GW328 := n9_; have GE328 := n10_; have NB299_328 := n11_; have NB328_299 := n12_; clear hb1_ hb0_ hW_ n8_ n9_ n10_ n11_ n12_; clear hb hbox hg; have hnb22 := NB328_299.out; have hnc22 := NB299_328.out; obtain ⟨hcz23_0, hcz23_1, hcz23_2, hcz23_3, hcz23_4, hcz23_5, hcz23_6, hfz23_0, hfz23_1, hfz23_2, hfz23_3, hfz23_4, hfz23_5, hfz23_6⟩ := bkA7 BK328.out; obtain ⟨Ao24, co24, eo24⟩ := Kd.S_slice HO318.out; subst eo24; obtain ⟨Ao25, co25, eo25⟩ := Kd.R_slice HO321.out; subst eo25; obtain ⟨Ao26, co26, eo26⟩ := Kd.S_slice HO327.out; subst eo26) | ((with_reducible refine gate_callee (f := 12) rfl ?_); refine goesL_ (some 18) rfl rfl Tryd.func12 (by kernel_rfl) rfl #[.agg #[.int .i64 t315, .slice Ao24 t316.length co24, .slice Ao25 t319.length co25, .int .i64 t322, .int .i64 t323, .int .i64 t324, .slice Ao26 t325.length co26]] rfl (by (try simp only [List.map_toArray, List.map_cons, List.map_nil]); first | done | rfl | (simp only [List.length_drop, List.length_take]; rfl)) ?_; (with_reducible refine (impl_ShowOutcome.calls t315 _ _ t316 _ _ t319 t322 t323 t324 _ _ t325 t329 _ ?side1 ?side2 ?side3 ?side4 ?side5 ?side6 ?side7 A11.out).mono ?_); (case side1 => (first | (with_reducible exact HG.out) | exact GPow.below HG.out (by repeat (first | (with_reducible first | exact HB.out | apply below_alloc | apply pw_below_drewN | apply below_drew1 | refine below_set ?_ GE299.out | refine below_set ?_ GE328.out) | exact HB.out)) | (repeat (first | exact HG.out | apply GPow.drewN | apply GPow.drew | apply GPow.alloc)))); (case side2 => refine (Kd.S_reads' (e := 77) (base := w.heap.size) (ok := fun k_ => (True ∧ some k_ ≠ (.slice Ao15 t302.length co15 : Value).ownBlock)) (n := t316.length) (c := co24) ?_).2.2; exact (by (with_reducible repeat (first | apply Kd.S_alloc | apply Kd.S_drewN | apply Kd.S_drew)); exact (Kd.S_mono (Kd.S_far (p := ⟨gb328, 6, none⟩) (Kd.S_far (p := ⟨gb328, 5, none⟩) (Kd.S_far (p := ⟨gb328, 4, none⟩) (Kd.S_far (p := ⟨gb328, 3, none⟩) (Kd.S_far (p := ⟨gb328, 2, none⟩) (Kd.S_far (p := ⟨gb328, 1, none⟩) (Kd.S_far (p := ⟨gb328, 0, none⟩) (Kd.S_types HO318.out BK328.out (by decide)) (fun _ hk => hk.2) (.int .i64 t315)) (fun _ hk => hk.2) (.slice Ao24 t316.length co24)) (fun _ hk => hk.2) (.slice Ao25 t319.length co25)) (fun _ hk => hk.2) (.int .i64 t322)) (fun _ hk => hk.2) (.int .i64 t323)) (fun _ hk => hk.2) (.int .i64 t324)) (fun _ hk => hk.2) (.slice Ao26 t325.length co26)) (fun _ h_ => h_.1)))); (case side3 => exact (Kd.S_reads' HO318.out).2.1); (case side4 => refine (Kd.R_reads' (e := 85) (base := w.heap.size) (ok := fun k_ => (True ∧ some k_ ≠ (.slice Ao16 t305.length co16 : Value).ownBlock)) (n := t319.length) (c := co25) ?_).2.2; exact (by (with_reducible repeat (first | apply Kd.R_alloc | apply Kd.R_drewN | apply Kd.R_drew)); exact (Kd.R_mono (Kd.R_far (p := ⟨gb328, 6, none⟩) (Kd.R_far (p := ⟨gb328, 5, none⟩) (Kd.R_far (p := ⟨gb328, 4, none⟩) (Kd.R_far (p := ⟨gb328, 3, none⟩) (Kd.R_far (p := ⟨gb328, 2, none⟩) (Kd.R_far (p := ⟨gb328, 1, none⟩) (Kd.R_far (p := ⟨gb328, 0, none⟩) (Kd.R_types HO321.out BK328.out (by decide)) (fun _ hk => hk.2) (.int .i64 t315)) (fun _ hk => hk.2) (.slice Ao24 t316.length co24)) (fun _ hk => hk.2) (.slice Ao25 t319.length co25)) (fun _ hk => hk.2) (.int .i64 t322)) (fun _ hk => hk.2) (.int .i64 t323)) (fun _ hk => hk.2) (.int .i64 t324)) (fun _ hk => hk.2) (.slice Ao26 t325.length co26)) (fun _ h_ => h_.1)))); (case side5 => exact (Kd.R_reads' HO321.out).2.1); (case side6 => refine (Kd.S_reads' (e := 187) (base := w.heap.size) (ok := fun k_ => (True ∧ some k_ ≠ (.slice Ao17 t311.length co17 : Value).ownBlock)) (n := t325.length) (c := co26) ?_).2.2; exact (by (with_reducible repeat (first | apply Kd.S_alloc | apply Kd.S_drewN | apply Kd.S_drew)); exact (Kd.S_mono (Kd.S_far (p := ⟨gb328, 6, none⟩) (Kd.S_far (p := ⟨gb328, 5, none⟩) (Kd.S_far (p := ⟨gb328, 4, none⟩) (Kd.S_far (p := ⟨gb328, 3, none⟩) (Kd.S_far (p := ⟨gb328, 2, none⟩) (Kd.S_far (p := ⟨gb328, 1, none⟩) (Kd.S_far (p := ⟨gb328, 0, none⟩) (Kd.S_types HO327.out BK328.out (by decide)) (fun _ hk => hk.2) (.int .i64 t315)) (fun _ hk => hk.2) (.slice Ao24 t316.length co24)) (fun _ hk => hk.2) (.slice Ao25 t319.length co25)) (fun _ hk => hk.2) (.int .i64 t322)) (fun _ hk => hk.2) (.int .i64 t323)) (fun _ hk => hk.2) (.int .i64 t324)) (fun _ hk => hk.2) (.slice Ao26 t325.length co26)) (fun _ h_ => h_.1)))); (case side7 => exact (Kd.S_reads' HO327.out).2.1); rintro e w27 ⟨rfl, hb⟩; refine ⟨_, rfl, ?_⟩; have n0_ := Aside0.mk (Kd.S_below (by (with_reducible repeat (first | apply Kd.S_alloc | apply Kd.S_drewN | apply Kd.S_drew)); exact (Kd.S_mono (Kd.S_far (p := ⟨gb328, 6, none⟩) (Kd.S_far (p := ⟨gb328, 5, none⟩) (Kd.S_far (p := ⟨gb328, 4, none⟩) (Kd.S_far (p := ⟨gb328, 3, none⟩) (Kd.S_far (p := ⟨gb328, 2, none⟩) (Kd.S_far (p := ⟨gb328, 1, none⟩) (Kd.S_far (p := ⟨gb328, 0, none⟩) (Kd.S_types HO304.out BK328.out (by decide)) (fun _ hk => hk.2) (.int .i64 t315)) (fun _ hk => hk.2) (.slice Ao24 t316.length co24)) (fun _ hk => hk.2) (.slice Ao25 t319.length co25)) (fun _ hk => hk.2) (.int .i64 t322)) (fun _ hk => hk.2) (.int .i64 t323)) (fun _ hk => hk.2) (.int .i64 t324)) (fun _ hk => hk.2) (.slice Ao26 t325.length co26)) (fun _ h_ => h_.1))) hb); have n1_ := Aside0.mk (Kd.R_below (by (with_reducible repeat (first | apply Kd.R_alloc | apply Kd.R_drewN | apply Kd.R_drew)); exact (Kd.R_mono (Kd.R_far (p := ⟨gb328, 6, none⟩) (Kd.R_far (p := ⟨gb328, 5, none⟩) (Kd.R_far (p := ⟨gb328, 4, none⟩) (Kd.R_far (p := ⟨gb328, 3, none⟩) (Kd.R_far (p := ⟨gb328, 2, none⟩) (Kd.R_far (p := ⟨gb328, 1, none⟩) (Kd.R_far (p := ⟨gb328, 0, none⟩) (Kd.R_types HO307.out BK328.out (by decide)) (fun _ hk => hk.2) (.int .i64 t315)) (fun _ hk => hk.2) (.slice Ao24 t316.length co24)) (fun _ hk => hk.2) (.slice Ao25 t319.length co25)) (fun _ hk => hk.2) (.int .i64 t322)) (fun _ hk => hk.2) (.int .i64 t323)) (fun _ hk => hk.2) (.int .i64 t324)) (fun _ hk => hk.2) (.slice Ao26 t325.length co26)) (fun _ h_ => h_.1))) hb); have n2_ := Aside0.mk (Kd.S_below (by (with_reducible repeat (first | apply Kd.S_alloc | apply Kd.S_drewN | apply Kd.S_drew)); exact (Kd.S_mono (Kd.S_far (p := ⟨gb328, 6, none⟩) (Kd.S_far (p := ⟨gb328, 5, none⟩) (Kd.S_far (p := ⟨gb328, 4, none⟩) (Kd.S_far (p := ⟨gb328, 3, none⟩) (Kd.S_far (p := ⟨gb328, 2, none⟩) (Kd.S_far (p := ⟨gb328, 1, none⟩) (Kd.S_far (p := ⟨gb328, 0, none⟩) (Kd.S_types HO313.out BK328.out (by decide)) (fun _ hk => hk.2) (.int .i64 t315)) (fun _ hk => hk.2) (.slice Ao24 t316.length co24)) (fun _ hk => hk.2) (.slice Ao25 t319.length co25)) (fun _ hk => hk.2) (.int .i64 t322)) (fun _ hk => hk.2) (.int .i64 t323)) (fun _ hk => hk.2) (.int .i64 t324)) (fun _ hk => hk.2) (.slice Ao26 t325.length co26)) (fun _ h_ => h_.1))) hb); have n3_ := Aside0.mk (Kd.S_below (by (with_reducible repeat (first | apply Kd.S_alloc | apply Kd.S_drewN | apply Kd.S_drew)); exact (Kd.S_mono (Kd.S_far (p := ⟨gb328, 6, none⟩) (Kd.S_far (p := ⟨gb328, 5, none⟩) (Kd.S_far (p := ⟨gb328, 4, none⟩) (Kd.S_far (p := ⟨gb328, 3, none⟩) (Kd.S_far (p := ⟨gb328, 2, none⟩) (Kd.S_far (p := ⟨gb328, 1, none⟩) (Kd.S_far (p := ⟨gb328, 0, none⟩) (Kd.S_types HO318.out BK328.out (by decide)) (fun _ hk => hk.2) (.int .i64 t315)) (fun _ hk => hk.2) (.slice Ao24 t316.length co24)) (fun _ hk => hk.2) (.slice Ao25 t319.length co25)) (fun _ hk => hk.2) (.int .i64 t322)) (fun _ hk => hk.2) (.int .i64 t323)) (fun _ hk => hk.2) (.int .i64 t324)) (fun _ hk => hk.2) (.slice Ao26 t325.length co26)) (fun _ h_ => h_.1))) hb); have n4_ := Aside0.mk (Kd.R_below (by (with_reducible repeat (first | apply Kd.R_alloc | apply Kd.R_drewN | apply Kd.R_drew)); exact (Kd.R_mono (Kd.R_far (p := ⟨gb328, 6, none⟩) (Kd.R_far (p := ⟨gb328, 5, none⟩) (Kd.R_far (p := ⟨gb328, 4, none⟩) (Kd.R_far (p := ⟨gb328, 3, none⟩) (Kd.R_far (p := ⟨gb328, 2, none⟩) (Kd.R_far (p := ⟨gb328, 1, none⟩) (Kd.R_far (p := ⟨gb328, 0, none⟩) (Kd.R_types HO321.out BK328.out (by decide)) (fun _ hk => hk.2) (.int .i64 t315)) (fun _ hk => hk.2) (.slice Ao24 t316.length co24)) (fun _ hk => hk.2) (.slice Ao25 t319.length co25)) (fun _ hk => hk.2) (.int .i64 t322)) (fun _ hk => hk.2) (.int .i64 t323)) (fun _ hk => hk.2) (.int .i64 t324)) (fun _ hk => hk.2) (.slice Ao26 t325.length co26)) (fun _ h_ => h_.1))) hb); have n5_ := Aside0.mk (Kd.S_below (by (with_reducible repeat (first | apply Kd.S_alloc | apply Kd.S_drewN | apply Kd.S_drew)); exact (Kd.S_mono (Kd.S_far (p := ⟨gb328, 6, none⟩) (Kd.S_far (p := ⟨gb328, 5, none⟩) (Kd.S_far (p := ⟨gb328, 4, none⟩) (Kd.S_far (p := ⟨gb328, 3, none⟩) (Kd.S_far (p := ⟨gb328, 2, none⟩) (Kd.S_far (p := ⟨gb328, 1, none⟩) (Kd.S_far (p := ⟨gb328, 0, none⟩) (Kd.S_types HO327.out BK328.out (by decide)) (fun _ hk => hk.2) (.int .i64 t315)) (fun _ hk => hk.2) (.slice Ao24 t316.length co24)) (fun _ hk => hk.2) (.slice Ao25 t319.length co25)) (fun _ hk => hk.2) (.int .i64 t322)) (fun _ hk => hk.2) (.int .i64 t323)) (fun _ hk => hk.2) (.int .i64 t324)) (fun _ hk => hk.2) (.slice Ao26 t325.length co26)) (fun _ h_ => h_.1))) hb); have n6_ := Aside0.mk (blk_below (g := gb299) (o := .cells #[.int .i64 a0_0, .slice A0_1 l0_1.length c0_1, .slice A0_2 l0_2.length c0_2, .int .i64 a0_3, .int .i64 a0_4, .int .i64 a0_5, .slice A0_6 l0_6.length c0_6] 28 (0, 0)) (by (with_reducible repeat (first | refine blk_drewN ?_ _ | refine blk_drew ?_ | refine blk_alloc ?_ _)); refine blk_far ?_ NB299_328.out _; (with_reducible repeat (first | refine blk_drewN ?_ _ | refine blk_drew ?_ | refine blk_alloc ?_ _)); refine blk_far ?_ NB299_328.out _; (with_reducible repeat (first | refine blk_drewN ?_ _ | refine blk_drew ?_ | refine blk_alloc ?_ _)); refine blk_far ?_ NB299_328.out _; (with_reducible repeat (first | refine blk_drewN ?_ _ | refine blk_drew ?_ | refine blk_alloc ?_ _)); refine blk_far ?_ NB299_328.out _; (with_reducible repeat (first | refine blk_drewN ?_ _ | refine blk_drew ?_ | refine blk_alloc ?_ _)); refine blk_far ?_ NB299_328.out _; (with_reducible repeat (first | refine blk_drewN ?_ _ | refine blk_drew ?_ | refine blk_alloc ?_ _)); refine blk_far ?_ NB299_328.out _; (with_reducible repeat (first | refine blk_drewN ?_ _ | refine blk_drew ?_ | refine blk_alloc ?_ _)); refine blk_far ?_ NB299_328.out _; (with_reducible repeat (first | refine blk_drewN ?_ _ | refine blk_drew ?_ | refine blk_alloc ?_ _)); exact BK299.out) hb); have n7_ := Aside0.mk (blk_below (g := gb328) (o := .cells #[.int .i64 t315, .slice Ao24 t316.length co24, .slice Ao25 t319.length co25, .int .i64 t322, .int .i64 t323, .int .i64 t324, .slice Ao26 t325.length co26] 37 (0, 0)) (by (with_reducible repeat (first | refine blk_drewN ?_ _ | refine blk_drew ?_ | refine blk_alloc ?_ _)); refine blk_put (cs := #[.int .i64 t315, .slice Ao24 t316.length co24, .slice Ao25 t319.length co25, .int .i64 t322, .int .i64 t323, .int .i64 t324, .slice none 0 0]) ?_ 6 _ rfl; (with_reducible repeat (first | refine blk_drewN ?_ _ | refine blk_drew ?_ | refine blk_alloc ?_ _)); refine blk_put (cs := #[.int .i64 t315, .slice Ao24 t316.length co24, .slice Ao25 t319.length co25, .int .i64 t322, .int .i64 t323, .int .i64 0, .slice none 0 0]) ?_ 5 _ rfl; (with_reducible repeat (first | refine blk_drewN ?_ _ | refine blk_drew ?_ | refine blk_alloc ?_ _)); refine blk_put (cs := #[.int .i64 t315, .slice Ao24 t316.length co24, .slice Ao25 t319.length co25, .int .i64 t322, .int .i64 0, .int .i64 0, .slice none 0 0]) ?_ 4 _ rfl; (with_reducible repeat (first | refine blk_drewN ?_ _ | refine blk_drew ?_ | refine blk_alloc ?_ _)); refine blk_put (cs := #[.int .i64 t315, .slice Ao24 t316.length co24, .slice Ao25 t319.length co25, .int .i64 0, .int .i64 0, .int .i64 0, .slice none 0 0]) ?_ 3 _ rfl; (with_reducible repeat (first | refine blk_drewN ?_ _ | refine blk_drew ?_ | refine blk_alloc ?_ _)); refine blk_put (cs := #[.int .i64 t315, .slice Ao24 t316.length co24, .slice none 0 0, .int .i64 0, .int .i64 0, .int .i64 0, .slice none 0 0]) ?_ 2 _ rfl; (with_reducible repeat (first | refine blk_drewN ?_ _ | refine blk_drew ?_ | refine blk_alloc ?_ _)); refine blk_put (cs := #[.int .i64 t315, .slice none 0 0, .slice none 0 0, .int .i64 0, .int .i64 0, .int .i64 0, .slice none 0 0]) ?_ 1 _ rfl; (with_reducible repeat (first | refine blk_drewN ?_ _ | refine blk_drew ?_ | refine blk_alloc ?_ _)); refine blk_put (cs := #[.int .i64 0, .slice none 0 0, .slice none 0 0, .int .i64 0, .int .i64 0, .int .i64 0, .slice none 0 0]) ?_ 0 _ rfl; (with_reducible repeat (first | refine blk_drewN ?_ _ | refine blk_drew ?_ | refine blk_alloc ?_ _)); exact BK328.out) hb); have n8_ := Aside0.mk (below_step (by repeat (first | (with_reducible first | exact HB.out | apply below_alloc | apply pw_below_drewN | apply below_drew1 | refine below_set ?_ GE299.out | refine below_set ?_ GE328.out) | exact HB.out)) hb); clear HO304; clear HO307; clear HO313; clear HO318; clear HO321; clear HO327; clear BK299; clear BK328; clear HB; have HO304 := n0_; have HO307 := n1_; have HO313 := n2_; have HO318 := n3_; have HO321 := n4_; have HO327 := n5_; have BK299 := n6_; have BK328 := n7_; have HB := n8_; clear n0_ n1_ n2_ n3_ n4_ n5_ n6_ n7_ n8_; (try clear hb); (try clear hb2); (try clear hk); (try clear hi)))
    have H := HL12.out
    clear HL12
    by_cases c28 : t329.toList = t314.toList
    · rw [if_pos c28] at H
      have c28b0 : (t329.toList == t314.toList) = true := beq_iff_eq.mpr c28
      have c28b1 : (t329.toList != t314.toList) = false := bne_eq_false_iff_eq.mpr c28
      clear c28
      (first | rw [c28b0] | (simp only [i64_w, i32_w]; rw [c28b0]) | simp only [c28b2, Bool.not_false, Bool.not_true] | skip)
      replace H := Option.bind_eq_some_iff.mp H
      obtain ⟨⟨t330, t331, t334, t337, t338, t339, t340⟩, A290, H⟩ := H
      replace H : ((laws_eqOutcome.f k t315 t316 t319 t322 t323 t324 t325 t330 t331 t334 t337 t338 t339 t340).bind fun t343 => (if t343 = true then (some true) else (some false))) = some r := H
      have A29 := Aside0.mk A290
      clear A290
      replace H := Option.bind_eq_some_iff.mp H
      obtain ⟨t343, A300, H⟩ := H
      replace H : (if t343 = true then (some true) else (some false)) = some r := H
      have A30 := Aside0.mk A300
      clear A300
      have HL31 := Aside0.mk H
      clear H
      try go_wp2
      have n0_ := Aside0.mk (Kd.S_drew HO304.out)
      have n1_ := Aside0.mk (Kd.R_drew HO307.out)
      have n2_ := Aside0.mk (Kd.S_drew HO313.out)
      have n3_ := Aside0.mk (Kd.S_drew HO318.out)
      have n4_ := Aside0.mk (Kd.R_drew HO321.out)
      have n5_ := Aside0.mk (Kd.S_drew HO327.out)
      have n6_ := Aside0.mk (blk_drew BK299.out)
      have n7_ := Aside0.mk (blk_drew BK328.out)
      have n8_ := Aside0.mk (below_drew1 HB.out)
      clear HO304
      clear HO307
      clear HO313
      clear HO318
      clear HO321
      clear HO327
      clear BK299
      clear BK328
      clear HB
      have HO304 := n0_
      have HO307 := n1_
      have HO313 := n2_
      have HO318 := n3_
      have HO321 := n4_
      have HO327 := n5_
      have BK299 := n6_
      have BK328 := n7_
      have HB := n8_
      clear n0_ n1_ n2_ n3_ n4_ n5_ n6_ n7_ n8_
      refine start_ (n := 5) (S := fun w' => w'.cell? ⟨gb328, 0, none⟩ = some (.int .i64 t315) ∧ w'.cell? ⟨gb328, 1, none⟩ = some (.slice Ao24 t316.length co24) ∧ w'.cell? ⟨gb328, 2, none⟩ = some (.slice Ao25 t319.length co25) ∧ w'.cell? ⟨gb328, 3, none⟩ = some (.int .i64 t322) ∧ w'.cell? ⟨gb328, 4, none⟩ = some (.int .i64 t323) ∧ w'.cell? ⟨gb328, 5, none⟩ = some (.int .i64 t324) ∧ w'.cell? ⟨gb328, 6, none⟩ = some (.slice Ao26 t325.length co26) ∧ w'.cell? ⟨gb299, 0, none⟩ = some (.int .i64 a0_0) ∧ w'.cell? ⟨gb299, 1, none⟩ = some (.slice A0_1 l0_1.length c0_1) ∧ w'.cell? ⟨gb299, 2, none⟩ = some (.slice A0_2 l0_2.length c0_2) ∧ w'.cell? ⟨gb299, 3, none⟩ = some (.int .i64 a0_3) ∧ w'.cell? ⟨gb299, 4, none⟩ = some (.int .i64 a0_4) ∧ w'.cell? ⟨gb299, 5, none⟩ = some (.int .i64 a0_5) ∧ w'.cell? ⟨gb299, 6, none⟩ = some (.slice A0_6 l0_6.length c0_6)) (ds := []) #[false, false, false, false, false] (by kernel_rfl) rfl rfl ⟨(blk_cell BK328.out 0).trans rfl, (blk_cell BK328.out 1).trans rfl, (blk_cell BK328.out 2).trans rfl, (blk_cell BK328.out 3).trans rfl, (blk_cell BK328.out 4).trans rfl, (blk_cell BK328.out 5).trans rfl, (blk_cell BK328.out 6).trans rfl, (blk_cell BK299.out 0).trans rfl, (blk_cell BK299.out 1).trans rfl, (blk_cell BK299.out 2).trans rfl, (blk_cell BK299.out 3).trans rfl, (blk_cell BK299.out 4).trans rfl, (blk_cell BK299.out 5).trans rfl, (blk_cell BK299.out 6).trans rfl⟩ (fun hHeld => ?_)
      generalize w27.drew = w32 at HO304 HO307 HO313 HO318 HO321 HO327 BK299 BK328 HB hHeld ⊢
      refine take_ (i := 0) (N := some 22) (v := ?_) (a' := ?_) #[true, false, false, false, false] rfl rfl (by kernel_rfl) (fun _ _ _ h => h) (Or.inl ⟨by rfl, ?_⟩) hHeld ?_ ?_
      rotate_left
      · rintro w' ⟨s0, s1, s2, s3, s4, s5, s6, s7, s8, s9, s10, s11, s12, s13⟩
        go_simp
        with_reducible rfl
      rotate_left
      · simp only [Act.put, sA_, i64_w, i32_w]
        rfl
      refine take_ (i := 1) (N := some 23) (v := ?_) (a' := ?_) #[true, true, false, false, false] rfl rfl (by kernel_rfl) (fun _ _ _ h => h) (Or.inl ⟨by rfl, ?_⟩) hHeld ?_ ?_
      rotate_left
      · rintro w' ⟨s0, s1, s2, s3, s4, s5, s6, s7, s8, s9, s10, s11, s12, s13⟩
        go_simp
        with_reducible rfl
      rotate_left
      · simp only [Act.put, sA_, i64_w, i32_w]
        rfl
      refine one_ (i := 2) (N := some 24) #[true, true, true, false, false] rfl rfl (by kernel_rfl) (by decide) (fun K hK => ?_)
      refine goes_ Tryd.func11 (by kernel_rfl) rfl #[.agg #[.int .i64 a0_0, .slice A0_1 l0_1.length c0_1, .slice A0_2 l0_2.length c0_2, .int .i64 a0_3, .int .i64 a0_4, .int .i64 a0_5, .slice A0_6 l0_6.length c0_6]] (by rfl) rfl rfl (by (try simp only [List.map_toArray, List.map_cons, List.map_nil]); first | done | rfl | (simp only [List.length_drop, List.length_take]; rfl)) ?_
      with_reducible refine (laws_toOutcome.calls k a0_0 _ _ l0_1 _ _ l0_2 a0_3 a0_4 a0_5 _ _ l0_6 t330 t331 t334 t337 t338 t339 t340 _ ?side1 ?side2 ?side3 ?side4 ?side5 ?side6 A29.out).mono ?_
      (case side1 => repeat (first | exact (Kd.C_below HR0_1.out HB.out) | (with_reducible refine Kd.C_alloc ?_ _) | (with_reducible refine Kd.C_drewN ?_ _) | (with_reducible refine Kd.C_drew ?_)))
      (case side2 => exact HC0_1.out)
      (case side3 => repeat (first | exact (Kd.C_below HR0_2.out HB.out) | (with_reducible refine Kd.C_alloc ?_ _) | (with_reducible refine Kd.C_drewN ?_ _) | (with_reducible refine Kd.C_drew ?_)))
      (case side4 => exact HC0_2.out)
      (case side5 => repeat (first | exact (Kd.C_below HR0_6.out HB.out) | (with_reducible refine Kd.C_alloc ?_ _) | (with_reducible refine Kd.C_drewN ?_ _) | (with_reducible refine Kd.C_drew ?_)))
      (case side6 => exact HC0_6.out)
      rintro e w33 ⟨v332, v335, v341, rfl, ho0, ho1, ho2, hb⟩
      refine ⟨_, rfl, ?_⟩
      have hb1_ := fromP HB.out hb (by repeat (first | (with_reducible exact Below.refl _ _) | apply below_alloc | apply pw_below_drewN | apply below_drew1))
      have hb0_ := below_step hb1_ hb
      have hW_ := below_step HB.out hb1_
      have n0_ := Aside0.mk (Kd.S_elder' (Kd.S_below HO304.out hb1_) (Kd.S_base ho0) hb)
      have n1_ := Aside0.mk (Kd.R_elder' (Kd.R_below HO307.out hb1_) (Kd.R_base ho1) hb)
      have n2_ := Aside0.mk (Kd.S_elder' (Kd.S_below HO313.out hb1_) (Kd.S_base ho2) hb)
      have n3_ := Aside0.mk (Kd.S_elder' (Kd.S_below HO318.out hb1_) (Kd.S_base ho0) hb)
      have n4_ := Aside0.mk (Kd.R_elder' (Kd.R_below HO321.out hb1_) (Kd.R_base ho1) hb)
      have n5_ := Aside0.mk (Kd.S_elder' (Kd.S_below HO327.out hb1_) (Kd.S_base ho2) hb)
      have n6_ := Aside0.mk (Kd.S_lower (Kd.S_new' (Kd.S_new' ho0 (Kd.S_lt (Kd.S_below HO304.out hb1_))) (Kd.S_lt (Kd.S_below HO318.out hb1_))) (below_size hW_))
      have n7_ := Aside0.mk (Kd.R_lower (Kd.R_new' (Kd.R_new' ho1 (Kd.R_lt (Kd.R_below HO307.out hb1_))) (Kd.R_lt (Kd.R_below HO321.out hb1_))) (below_size hW_))
      have n8_ := Aside0.mk (Kd.S_lower (Kd.S_new' (Kd.S_new' ho2 (Kd.S_lt (Kd.S_below HO313.out hb1_))) (Kd.S_lt (Kd.S_below HO327.out hb1_))) (below_size hW_))
      replace BK299 := kB BK299 hb0_
      replace BK328 := kB BK328 hb0_
      replace HB := kH HB hb0_
      clear HO304 HO307 HO313 HO318 HO321 HO327
      have HO304 := n0_
      have HO307 := n1_
      have HO313 := n2_
      have HO318 := n3_
      have HO321 := n4_
      have HO327 := n5_
      have HO333 := n6_
      have HO336 := n7_
      have HO342 := n8_
      clear hb1_ hb0_ hW_ n0_ n1_ n2_ n3_ n4_ n5_ n6_ n7_ n8_
      (try clear hb)
      (try clear hb2)
      (try clear hk)
      (try clear hi)
      (try clear ho0)
      (try clear ho1)
      (try clear ho2)
      obtain ⟨Ao34, co34, eo34⟩ := Kd.S_slice HO333.out
      (first | subst eo34 | (injection eo34 with f1_ f2_ f3_; have f4_ := f1_.symm; have f5_ := f3_.symm; clear f1_ f2_ f3_; subst f4_; subst f5_))
      obtain ⟨Ao35, co35, eo35⟩ := Kd.R_slice HO336.out
      (first | subst eo35 | (injection eo35 with f1_ f2_ f3_; have f4_ := f1_.symm; have f5_ := f3_.symm; clear f1_ f2_ f3_; subst f4_; subst f5_))
      obtain ⟨Ao36, co36, eo36⟩ := Kd.S_slice HO342.out
      (first | subst eo36 | (injection eo36 with f1_ f2_ f3_; have f4_ := f1_.symm; have f5_ := f3_.symm; clear f1_ f2_ f3_; subst f4_; subst f5_))
      refine hK.out _ _ ⟨(blk_cell BK328.out 0).trans rfl, (blk_cell BK328.out 1).trans rfl, (blk_cell BK328.out 2).trans rfl, (blk_cell BK328.out 3).trans rfl, (blk_cell BK328.out 4).trans rfl, (blk_cell BK328.out 5).trans rfl, (blk_cell BK328.out 6).trans rfl, (blk_cell BK299.out 0).trans rfl, (blk_cell BK299.out 1).trans rfl, (blk_cell BK299.out 2).trans rfl, (blk_cell BK299.out 3).trans rfl, (blk_cell BK299.out 4).trans rfl, (blk_cell BK299.out 5).trans rfl, (blk_cell BK299.out 6).trans rfl⟩ (fun hHeld => ?_)
      clear hK K
      refine norm_ (a' := ?_) ?_ ?_
      rotate_left
      · show Act.put _ (some 24) _ = _
        simp only [Act.put, sA_, i64_w, i32_w]
        rfl
      refine one_ (i := 3) (N := some 25) #[true, true, true, true, false] rfl rfl (by kernel_rfl) (by decide) (fun K hK => ?_)
      refine goes_ Tryd.func13 (by kernel_rfl) rfl #[.agg #[.int .i64 t315, .slice Ao24 t316.length co24, .slice Ao25 t319.length co25, .int .i64 t322, .int .i64 t323, .int .i64 t324, .slice Ao26 t325.length co26], .agg #[.int .i64 t330, .slice Ao34 t331.length co34, .slice Ao35 t334.length co35, .int .i64 t337, .int .i64 t338, .int .i64 t339, .slice Ao36 t340.length co36]] (by rfl) rfl rfl (by (try simp only [List.map_toArray, List.map_cons, List.map_nil]); first | done | rfl | (simp only [List.length_drop, List.length_take]; rfl)) ?_
      with_reducible refine (laws_eqOutcome.calls k t315 _ _ t316 _ _ t319 t322 t323 t324 _ _ t325 t330 _ _ t331 _ _ t334 t337 t338 t339 _ _ t340 t343 _ ?side1 ?side2 ?side3 ?side4 ?side5 ?side6 ?side7 ?side8 ?side9 ?side10 ?side11 ?side12 A30.out).mono ?_
      (case side1 => repeat (first | exact (Kd.S_reads' HO318.out).2.2 | (with_reducible refine Kd.C_alloc ?_ _) | (with_reducible refine Kd.C_drewN ?_ _) | (with_reducible refine Kd.C_drew ?_)))
      (case side2 => exact (Kd.S_reads' HO318.out).2.1)
      (case side3 => repeat (first | exact (Kd.R_reads' HO321.out).2.2 | (with_reducible refine Kd.C_alloc ?_ _) | (with_reducible refine Kd.C_drewN ?_ _) | (with_reducible refine Kd.C_drew ?_)))
      (case side4 => exact (Kd.R_reads' HO321.out).2.1)
      (case side5 => repeat (first | exact (Kd.S_reads' HO327.out).2.2 | (with_reducible refine Kd.C_alloc ?_ _) | (with_reducible refine Kd.C_drewN ?_ _) | (with_reducible refine Kd.C_drew ?_)))
      (case side6 => exact (Kd.S_reads' HO327.out).2.1)
      (case side7 => repeat (first | exact (Kd.S_reads' HO333.out).2.2 | (with_reducible refine Kd.C_alloc ?_ _) | (with_reducible refine Kd.C_drewN ?_ _) | (with_reducible refine Kd.C_drew ?_)))
      (case side8 => exact (Kd.S_reads' HO333.out).2.1)
      (case side9 => repeat (first | exact (Kd.R_reads' HO336.out).2.2 | (with_reducible refine Kd.C_alloc ?_ _) | (with_reducible refine Kd.C_drewN ?_ _) | (with_reducible refine Kd.C_drew ?_)))
      (case side10 => exact (Kd.R_reads' HO336.out).2.1)
      (case side11 => repeat (first | exact (Kd.S_reads' HO342.out).2.2 | (with_reducible refine Kd.C_alloc ?_ _) | (with_reducible refine Kd.C_drewN ?_ _) | (with_reducible refine Kd.C_drew ?_)))
      (case side12 => exact (Kd.S_reads' HO342.out).2.1)
      rintro e w37 ⟨rfl, hb⟩
      refine ⟨_, rfl, ?_⟩
      have hb1_ := fromP HB.out hb (by repeat (first | (with_reducible exact Below.refl _ _) | apply below_alloc | apply pw_below_drewN | apply below_drew1))
      have hb0_ := below_step hb1_ hb
      replace HO304 := kS HO304 hb0_
      replace HO307 := kR HO307 hb0_
      replace HO313 := kS HO313 hb0_
      replace HO318 := kS HO318 hb0_
      replace HO321 := kR HO321 hb0_
      replace HO327 := kS HO327 hb0_
      replace HO333 := kS HO333 hb0_
      replace HO336 := kR HO336 hb0_
      replace HO342 := kS HO342 hb0_
      replace BK299 := kB BK299 hb0_
      replace BK328 := kB BK328 hb0_
      replace HB := kH HB hb0_
      clear hb1_ hb0_
      (try clear hb)
      (try clear hb2)
      (try clear hk)
      (try clear hi)
      refine hK.out _ _ ⟨(blk_cell BK328.out 0).trans rfl, (blk_cell BK328.out 1).trans rfl, (blk_cell BK328.out 2).trans rfl, (blk_cell BK328.out 3).trans rfl, (blk_cell BK328.out 4).trans rfl, (blk_cell BK328.out 5).trans rfl, (blk_cell BK328.out 6).trans rfl, (blk_cell BK299.out 0).trans rfl, (blk_cell BK299.out 1).trans rfl, (blk_cell BK299.out 2).trans rfl, (blk_cell BK299.out 3).trans rfl, (blk_cell BK299.out 4).trans rfl, (blk_cell BK299.out 5).trans rfl, (blk_cell BK299.out 6).trans rfl⟩ (fun hHeld => ?_)
      clear hK K
      refine norm_ (a' := ?_) ?_ ?_
      rotate_left
      · show Act.put _ (some 25) _ = _
        simp only [Act.put, sA_, i64_w, i32_w]
        rfl
      refine pure_ (i := 4) (N := some 26) (v := ?_) (a' := ?_) #[true, true, true, true, true] rfl rfl (by kernel_rfl) (fun _ _ _ h => h) (Or.inl ⟨by rfl, ?_⟩) ?_ ?_
      rotate_left
      · intro w'
        go_simp
        with_reducible rfl
      rotate_left
      · simp only [Act.put, sA_, i64_w, i32_w]
        rfl
      refine done_ (by kernel_rfl) ?_
      go_upto_if 26 with (fail)
      have H := HL31.out
      clear HL31
      by_cases c38 : t343 = true
      · subst c38
        have H1 : (some true) = some r := by rw [if_pos rfl] at H; exact H
        clear H
        have H := H1
        clear H1
        obtain rfl := Option.some.inj H
        go_wp2
        go_ret
        exact ⟨by first | rfl | (simp [errW_none, errW_some] <;> rfl) | (simp [*, errW_none, errW_some] <;> rfl), by repeat (first | (with_reducible first | exact HB.out | apply below_alloc | apply pw_below_drewN | apply below_drew1 | refine below_set ?_ GE299.out | refine below_set ?_ GE328.out) | exact HB.out)⟩
      · replace c38 := Bool.eq_false_iff.mpr c38
        subst c38
        have H1 : (some false) = some r := by rw [if_neg (show ¬ (false = true) by decide)] at H; exact H
        clear H
        have H := H1
        clear H1
        obtain rfl := Option.some.inj H
        go_wp2
        go_ret
        exact ⟨by first | rfl | (simp [errW_none, errW_some] <;> rfl) | (simp [*, errW_none, errW_some] <;> rfl), by repeat (first | (with_reducible first | exact HB.out | apply below_alloc | apply pw_below_drewN | apply below_drew1 | refine below_set ?_ GE299.out | refine below_set ?_ GE328.out) | exact HB.out)⟩
    · rw [if_neg c28] at H
      have c28b0 : (t329.toList == t314.toList) = false := beq_eq_false_iff_ne.mpr c28
      have c28b1 : (t329.toList != t314.toList) = true := bne_iff_ne.mpr c28
      (first | rw [c28b0] | (simp only [i64_w, i32_w]; rw [c28b0]) | simp only [c28b2, Bool.not_false, Bool.not_true] | skip)
      obtain rfl := Option.some.inj H
      go_wp2
      go_ret
      exact ⟨by first | rfl | (simp [errW_none, errW_some] <;> rfl) | (simp [*, errW_none, errW_some] <;> rfl), by repeat (first | (with_reducible first | exact HB.out | apply below_alloc | apply pw_below_drewN | apply below_drew1 | refine below_set ?_ GE299.out | refine below_set ?_ GE328.out) | exact HB.out)⟩
end Go.Proofs.YtidgimpdjfmbnaaDoor.Gp
end
