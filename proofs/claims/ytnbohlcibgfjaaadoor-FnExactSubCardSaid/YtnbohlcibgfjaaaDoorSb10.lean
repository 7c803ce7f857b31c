/- A part of the proof of RowFnExactSub: each text's theorems that it needs, packed by shake.py, a program of this work; Lean checks them. -/
import Derived.Test.YtnbohlcibgfjaaaDoorSb2
import Derived.Test.YtnbohlcibgfjaaaDoorSb9
section
namespace Go.Proofs.YtnbohlcibgfjaaaDoor.Gp
open Go.RowKit Go.Proofs.YtnbohlcibgfjaaaDoorW.PrintWords Go.Proofs.YtnbohlcibgfjaaaDoorW.PrintLast Go.Proofs.YtnbohlcibgfjaaaDoorW.PrintMore
set_option linter.unusedVariables false
set_option linter.unusedSimpArgs false
mutual
def spec_l1Sub.l0 : Nat → List (S186) → Int → List Bool → Int → List (S145) → Option (Bool)
  | 0, _, _, _, _, _ => none
  | k + 1, x7, x8, x9, x10, x273000 => if x10 < (x7.length : Int) then (if 0 ≤ x10 then ((spec_l1Demands.f k x273000 ((rd_T186 x7 x10).f0) ((rd_T186 x7 x10).f1)).bind fun bt281 => (if bt281.2 = true then (spec_l1Sub.l1 k x7 x8 x9 x10 bt281.1 0 x273000) else (some false))) else (none)) else (some true)
def spec_l1Sub.l1 : Nat → List (S186) → Int → List Bool → Int → List (S186) → Int → List (S145) → Option (Bool)
  | 0, _, _, _, _, _, _, _ => none
  | k + 1, x7, x8, x9, x10, x11, x13, x273000 => if x13 < (x11.length : Int) then (if 0 ≤ x13 then (if 0 ≤ (wrap64 ((wrap64 (((rd_T186 x11 x13).f0) * x8)) + ((rd_T186 x11 x13).f1))) then (if (wrap64 ((wrap64 (((rd_T186 x11 x13).f0) * x8)) + ((rd_T186 x11 x13).f1))) < (x9.length : Int) then (if (rdOf false x9 (wrap64 ((wrap64 (((rd_T186 x11 x13).f0) * x8)) + ((rd_T186 x11 x13).f1))) = true) then (spec_l1Sub.l1 k x7 x8 x9 x10 x11 (wrap64 (x13 + 1)) x273000) else (if x7.length < 8796093022208 then (spec_l1Sub.l1 k (x7 ++ [(⟨(rd_T186 x11 x13).f0, (rd_T186 x11 x13).f1⟩ : S186)]) x8 (x9.set ((wrap64 ((wrap64 (((rd_T186 x11 x13).f0) * x8)) + ((rd_T186 x11 x13).f1))) : Int).toNat true) x10 x11 (wrap64 (x13 + 1)) x273000) else (none))) else (none)) else (none)) else (none)) else (spec_l1Sub.l0 k x7 x8 x9 (wrap64 (x10 + 1)) x273000)
end
def spec_l1Sub.f (k : Nat) (l0_0 : List (S145)) (a1 : Int) (a2 : Int) : Option (Bool) := if 0 ≤ (wrap64 ((l0_0.length : Int) * (l0_0.length : Int))) then (if (wrap64 ((l0_0.length : Int) * (l0_0.length : Int)) : Int).toNat ≤ 281474976710656 then ((some (List.replicate (wrap64 ((l0_0.length : Int) * (l0_0.length : Int)) : Int).toNat false : List Bool)).bind fun y276 => (if 0 ≤ (wrap64 ((wrap64 (a1 * (l0_0.length : Int))) + a2)) then (if (wrap64 ((wrap64 (a1 * (l0_0.length : Int))) + a2)) < (y276.length : Int) then (spec_l1Sub.l0 k (([(⟨a1, a2⟩ : S186)] : List (S186))) (l0_0.length : Int) (y276.set ((wrap64 ((wrap64 (a1 * (l0_0.length : Int))) + a2)) : Int).toNat true) 0 l0_0) else (none)) else (none))) else (none)) else (none)
def spec_l1Sub.T8 : Bool × List (List Nat × List Nat) := (true, [([], []), ([], []), ([], []), ([1, 2], [1, 2]), ([3], [3]), ([0, 4], [0, 4]), ([5], [5]), ([6], [6]), ([6], [6]), ([7, 5, 0, 1, 2, 3, 4, 5, 6, 7], [7]), ([8, 9, 0, 1, 2, 3, 4, 5, 6, 7, 8, 9], [8])])
def spec_l1Sub.B8 : List Nat := [0, 0, 0, 6, 14, 31, 63, 127, 127, 255, 1023]
theorem spec_l1Sub.tab8 : rtab .any (opsOf Tryd.f107 8) = spec_l1Sub.T8 := by kernel_rfl
theorem spec_l1Sub.bits8 : waitsOk spec_l1Sub.T8.2 spec_l1Sub.B8 = true := by kernel_rfl
def spec_l1Sub.T14 : Bool × List (List Nat × List Nat) := (true, [([], []), ([], []), ([0, 1], [0, 1]), ([2], [2]), ([3], [3]), ([], []), ([4, 5], [4, 5]), ([], []), ([], []), ([7, 8], [7, 8]), ([9], [9]), ([10], [10]), ([6, 11], [6, 11]), ([12, 0, 1, 2, 3, 4, 5, 6, 7, 8, 9, 10, 11, 12], [12])])
def spec_l1Sub.B14 : List Nat := [0, 0, 3, 7, 15, 0, 63, 0, 0, 384, 896, 1920, 4095, 8191]
theorem spec_l1Sub.tab14 : rtab .any (opsOf Tryd.f107 14) = spec_l1Sub.T14 := by kernel_rfl
theorem spec_l1Sub.bits14 : waitsOk spec_l1Sub.T14.2 spec_l1Sub.B14 = true := by kernel_rfl
set_option maxHeartbeats 8000000 in
set_option maxRecDepth 100000 in
theorem spec_l1Sub.calls (k : Nat) (A0_0 : Option Addr) (c0_0 : Nat) (l0_0 : List (S145)) (a1 : Int) (a2 : Int) (r : Bool) (w : World) (hr0_0 : Kd.C k145 w A0_0 l0_0.length l0_0) (hc0_0 : l0_0.length ≤ c0_0) (h : spec_l1Sub.f k l0_0 a1 a2 = some r) :
    Calls Tryd.prog 107 #[.agg #[.slice A0_0 l0_0.length c0_0], .int .i64 a1, .int .i64 a2] w fun e w' => e = .returned (.bool r) ∧ Below w.heap.size w w' := by
  have hu76 := Tryd.underlying76
  have hu186 := Tryd.underlying186
  have HR0_0 := Aside0.mk hr0_0
  have HC0_0 := Aside0.mk hc0_0
  clear hr0_0 hc0_0
  have HB := Aside0.mk (Below.refl w.heap.size w)
  have H : (if 0 ≤ (wrap64 ((l0_0.length : Int) * (l0_0.length : Int))) then (if (wrap64 ((l0_0.length : Int) * (l0_0.length : Int)) : Int).toNat ≤ 281474976710656 then ((some (List.replicate (wrap64 ((l0_0.length : Int) * (l0_0.length : Int)) : Int).toNat false : List Bool)).bind fun y276 => (if 0 ≤ (wrap64 ((wrap64 (a1 * (l0_0.length : Int))) + a2)) then (if (wrap64 ((wrap64 (a1 * (l0_0.length : Int))) + a2)) < (y276.length : Int) then (spec_l1Sub.l0 k (([(⟨a1, a2⟩ : S186)] : List (S186))) (l0_0.length : Int) (y276.set ((wrap64 ((wrap64 (a1 * (l0_0.length : Int))) + a2)) : Int).toNat true) 0 l0_0) else (none)) else (none))) else (none)) else (none)) = some r := h
  clear h
  obtain ⟨y273, hy273⟩ : ∃ y_ : List (S186), y_ = (([(⟨a1, a2⟩ : S186)] : List (S186))) := ⟨_, rfl⟩
  replace H : (if 0 ≤ (wrap64 ((l0_0.length : Int) * (l0_0.length : Int))) then (if (wrap64 ((l0_0.length : Int) * (l0_0.length : Int)) : Int).toNat ≤ 281474976710656 then ((some (List.replicate (wrap64 ((l0_0.length : Int) * (l0_0.length : Int)) : Int).toNat false : List Bool)).bind fun y276 => (if 0 ≤ (wrap64 ((wrap64 (a1 * (l0_0.length : Int))) + a2)) then (if (wrap64 ((wrap64 (a1 * (l0_0.length : Int))) + a2)) < (y276.length : Int) then (spec_l1Sub.l0 k y273 (l0_0.length : Int) (y276.set ((wrap64 ((wrap64 (a1 * (l0_0.length : Int))) + a2)) : Int).toNat true) 0 l0_0) else (none)) else (none))) else (none)) else (none)) = some r := by first | (rw [hy273]; with_reducible exact H) | (have H2_ := (Option.bind_some _ _).symm.trans H; rw [hy273]; with_reducible exact H2_) | (have H2_ := (Option.bind_some _ _).symm.trans H; with_reducible exact H2_) | with_reducible exact H | (rw [hy273]; exact H) | exact H
  have Ny273 := Aside0.mk hy273
  clear hy273
  obtain ⟨ji4, hji4⟩ : ∃ j_ : Int, (wrap64 ((l0_0.length : Int) * (l0_0.length : Int))) = j_ := ⟨_, rfl⟩
  replace H : (if 0 ≤ (ji4) then (if (ji4 : Int).toNat ≤ 281474976710656 then ((some (List.replicate (ji4 : Int).toNat false : List Bool)).bind fun y276 => (if 0 ≤ (wrap64 ((wrap64 (a1 * (l0_0.length : Int))) + a2)) then (if (wrap64 ((wrap64 (a1 * (l0_0.length : Int))) + a2)) < (y276.length : Int) then (spec_l1Sub.l0 k y273 (l0_0.length : Int) (y276.set ((wrap64 ((wrap64 (a1 * (l0_0.length : Int))) + a2)) : Int).toNat true) 0 l0_0) else (none)) else (none))) else (none)) else (none)) = some r := by first | (rw [hji4] at H; exact H) | (simp only [hji4] at H ⊢; exact H)
  have hji4w : (IntKind.i64.wrap ((l0_0.length : Int) * (l0_0.length : Int))) = ji4 := (i64_w _).trans hji4
  by_cases c5 : 0 ≤ (ji4)
  · rw [if_pos c5] at H
    have c5b0 := eq_true c5
    have c5b1 : decide (0 ≤ (ji4)) = true := decide_eq_true c5
    clear c5
    by_cases c6 : (ji4 : Int).toNat ≤ 281474976710656
    · rw [if_pos c6] at H
      have c6b0 := eq_true c6
      have c6b1 : decide ((ji4 : Int).toNat ≤ 281474976710656) = true := decide_eq_true c6
      clear c6
      obtain ⟨y276, hy276⟩ : ∃ y_ : List Bool, y_ = (List.replicate (ji4 : Int).toNat false) := ⟨_, rfl⟩
      replace H : (if 0 ≤ (wrap64 ((wrap64 (a1 * (l0_0.length : Int))) + a2)) then (if (wrap64 ((wrap64 (a1 * (l0_0.length : Int))) + a2)) < (y276.length : Int) then (spec_l1Sub.l0 k y273 (l0_0.length : Int) (y276.set ((wrap64 ((wrap64 (a1 * (l0_0.length : Int))) + a2)) : Int).toNat true) 0 l0_0) else (none)) else (none)) = some r := by first | (rw [hy276]; with_reducible exact H) | (have H2_ := (Option.bind_some _ _).symm.trans H; rw [hy276]; with_reducible exact H2_) | (have H2_ := (Option.bind_some _ _).symm.trans H; with_reducible exact H2_) | with_reducible exact H | (rw [hy276]; exact H) | exact H
      have Ny276 := Aside0.mk hy276
      clear hy276
      obtain ⟨ji7, hji7⟩ : ∃ j_ : Int, (wrap64 ((wrap64 (a1 * (l0_0.length : Int))) + a2)) = j_ := ⟨_, rfl⟩
      replace H : (if 0 ≤ (ji7) then (if (ji7) < (y276.length : Int) then (spec_l1Sub.l0 k y273 (l0_0.length : Int) (y276.set ((ji7) : Int).toNat true) 0 l0_0) else (none)) else (none)) = some r := by first | (rw [hji7] at H; exact H) | (simp only [hji7] at H ⊢; exact H)
      have hji7w : (IntKind.i64.wrap ((wrap64 (a1 * (l0_0.length : Int))) + a2)) = ji7 := (i64_w _).trans hji7
      by_cases c8 : 0 ≤ (ji7)
      · rw [if_pos c8] at H
        have c8b0 : decide (0 ≤ (ji7)) = true := decide_eq_true c8
        clear c8
        by_cases c9 : (ji7) < (y276.length : Int)
        · rw [if_pos c9] at H
          have c9b0 : decide ((ji7) < (y276.length : Int)) = true := decide_eq_true c9
          clear c9
          obtain ⟨y279, hy279⟩ : ∃ y_ : List Bool, y_ = (y276.set ((ji7) : Int).toNat true) := ⟨_, rfl⟩
          replace H : (spec_l1Sub.l0 k y273 (l0_0.length : Int) y279 0 l0_0) = some r := by first | (rw [hy279]; with_reducible exact H) | (have H2_ := (Option.bind_some _ _).symm.trans H; rw [hy279]; with_reducible exact H2_) | (have H2_ := (Option.bind_some _ _).symm.trans H; with_reducible exact H2_) | with_reducible exact H | (rw [hy279]; exact H) | exact H
          have Ny279 := Aside0.mk hy279
          clear hy279
          have H' := Aside0.mk H
          clear H
          go_enter Tryd.func107, Tryd.ntmps107
          go_wp2_with (first | ((with_reducible refine gate_dst (N := 3) rfl ?_); refine box_event ?hg (N := 3) ?hd (cs := #[.slice A0_0 l0_0.length c0_0]) (t := 76) ?hr ?_; (case hd => rfl); (case hg => rfl); (case hr => first | (go_simp; done) | (go_simp; rfl)); intro gb272 hg w11 hbox hb; have hb1_ := fromP HB.out hb (by repeat (first | (with_reducible exact Below.refl _ _) | apply below_alloc | apply pw_below_drewN | apply below_drew1)); have hb0_ := below_step hb1_ hb; have hW_ := below_step HB.out hb1_; have n1_ := Aside0.mk (hbox); have n2_ := Aside0.mk ((by rw [hg]; exact (below_size hW_) : w.heap.size ≤ gb272)); have n3_ := Aside0.mk ((by rw [hg]; exact (below_size hW_) : w.heap.size ≤ gb272)); replace HB := kH HB hb0_; have BK272 := n1_; have GW272 := n2_; have GE272 := n3_; clear hb1_ hb0_ hW_ n1_ n2_ n3_; clear hb hbox hg) | ((with_reducible refine gate_dst (N := 18) rfl ?_); refine Kd.R_lit k186 _ 186 ?hg (N := 18) ?hd (xs := ([(⟨a1, a2⟩ : S186)] : List (S186))) (inner := [.int .i64 a1, .int .i64 a2]) (ok := fun _ => True) (okp := fun _ => True) ?hr ?hp (fun _ hk => hk) trivial (Below.refl _ _) (Nat.le_refl _) (by simp) ?_; (case hd => rfl); (case hg => rfl); (case hr => first | (go_simp; done) | (go_simp; rfl)); (case hp => exact (Reps.c2 (show Kd.M k186 _ _ _ (⟨a1, a2⟩ : S186) [.int .i64 a1, .int .i64 a2] from (k186_mkM _ _ _ (⟨a1, a2⟩ : S186) )) (Reps.none _ _))); intro v274 w12 ho13 hb hg_ hnew_; clear hg_ hnew_; (first | rw [← Ny273.out] at ho13 | (simp only [Int.reduceToNat] at ho13; rw [← Ny273.out] at ho13)); have hb1_ := fromP HB.out hb (by repeat (first | (with_reducible exact Below.refl _ _) | apply below_alloc | apply pw_below_drewN | apply below_drew1)); have hb0_ := below_step hb1_ hb; have hW_ := below_step HB.out hb1_; have n0_ := Aside0.mk (Kd.R_lower ho13 (below_size hW_)); replace BK272 := kB BK272 hb0_; replace HB := kH HB hb0_; have HO275 := n0_; clear hb1_ hb0_ hW_ n0_; clear hb ho13; obtain ⟨hcz14_0, hfz14_0⟩ := bkA1 BK272.out) | ((with_reducible refine gate_dst (N := 25) rfl ?_); refine Kd.R_make Kd.bool _ 4 rfl (N := 25) rfl 83 _ _ rfl ji4 rfl rfl Tryd.underlying83 (.bool false) 1 info4 rfl (by decide) (by omega) false (ok := fun _ => True) (okp := fun _ => True) rfl (fun _ hk => hk) trivial (of_decide_eq_true (by first | (with_reducible assumption) | assumption)) (Nat.le_trans (Nat.mul_le_mul_right _ (of_decide_eq_true (by first | (with_reducible assumption) | assumption) : ji4.toNat ≤ 281474976710656)) (by omega)) (Below.refl _ _) (Nat.le_refl _) ?_; intro v277 w15 ho16 hb hg_ hnew_; clear hg_ hnew_; (first | rw [← Ny276.out] at ho16 | (simp only [Int.reduceToNat] at ho16; rw [← Ny276.out] at ho16)); have hb1_ := fromP HB.out hb (by repeat (first | (with_reducible exact Below.refl _ _) | apply below_alloc | apply pw_below_drewN | apply below_drew1)); have hb0_ := below_step hb1_ hb; have hW_ := below_step HB.out hb1_; have n1_ := Aside0.mk (Kd.R_lower ho16 (below_size hW_)); replace HO275 := kR HO275 hb0_; replace BK272 := kB BK272 hb0_; replace HB := kH HB hb0_; have HO278 := n1_; clear hb1_ hb0_ hW_ n1_; clear hb ho16; have p10 : 0 ≤ ((ji7) : Int) := of_decide_eq_true (by first | (with_reducible assumption) | assumption); have q10 : ((ji7) : Int) < ((y276.length : Int) : Int) := of_decide_eq_true (by first | (with_reducible assumption) | assumption); obtain ⟨go10, co10, eo10, gb10, gl10, cl10, HG10⟩ := Kd.R_form HO278.out (by omega); (first | cases eo10 | (injection eo10 with ea_ en_ ec_; (first | subst ea_ | (injection ea_ with ea_; subst ea_)); subst ec_; clear en_)); have GB10 := Aside0.mk gb10; have GG10 := Aside0.mk HG10; clear gb10 gl10 HG10; obtain ⟨hx10_0, hf10_0⟩ := Kd.R_celln false HO278.out ((ji7) : Int) p10 q10; replace p10 := eq_true p10; replace q10 := eq_true q10; obtain ⟨hy17_, hz17_⟩ := Kd.R_celln false HO278.out ((ji7) : Int) (of_decide_eq_true (by first | (with_reducible assumption) | assumption)) (of_decide_eq_true (by first | (with_reducible assumption) | assumption)); have HP17 := Kd.R_putg HO278.out ((ji7) : Int) true) | ((with_reducible refine gate_store (t := 4) (p := 32) rfl ?_); refine store_event (t := 4) (p := 32) (v := ?vo_w18) (w1 := (w15.setCell ⟨go10, ((ji7) : Int).toNat, none⟩ (.bool true))) ?hg ?ho ?hn ?hr ?_; (case ho => rfl); (case hg => rfl); (case hn => rfl); (case hr => first | (go_simp; done) | (go_simp; rfl)); intro w18 hw; have hg : w15.grownBy w18 (some go10) := (by rw [hw]; exact HP17.2); have hp_ : Kd.R Kd.bool 4 w18 w.heap.size (fun _ => True) (.slice (some ⟨go10, 0, none⟩) y276.length co10) y279 := (by rw [hw, Ny279.out]; exact HP17.1); clear HP17; have n0_ := Aside0.mk (blk_grown (g := gb272) (o := .cells #[.slice A0_0 l0_0.length c0_0] 76 (0, 0)) (by (with_reducible repeat (first | refine blk_drewN ?_ _ | refine blk_drew ?_ | refine blk_alloc ?_ _)); exact BK272.out) hg (Kd.R_ne HO278.out BK272.out (by decide))); have n1_ := Aside0.mk (Kd.R_over' (v := (.slice (some ⟨go10, 0, none⟩) y276.length co10)) (by (with_reducible repeat (first | apply Kd.R_alloc | apply Kd.R_drewN | apply Kd.R_drew)); exact HO275.out) (Kd.R_typed HO278.out) (by decide) hg); have n2_ := Aside0.mk (hp_); have n3_ := Aside0.mk ((by rw [hw]; exact below_set (HB.out) GB10.out : Below w.heap.size w w18)); clear BK272; clear HO275; clear HO278; clear HB; have BK272 := n0_; have HO275 := n1_; have HO278 := n2_; have HB := n3_; clear n0_ n1_ n2_ n3_; clear hg hw hp_))
          go_loopg [7, 10] k (fun kq v7 v10 w' => ∃ (x7_1 : List (S186)) (x9_1 : List Bool) (x10_1 : Int), v10 = .int .i64 x10_1 ∧ Aside0 (spec_l1Sub.l0 kq x7_1 (l0_0.length : Int) x9_1 x10_1 l0_0 = some r) ∧ Aside0 (kq ≤ k) ∧ Aside0 (Kd.R k186 186 w' w.heap.size (fun _ => True) v7 x7_1) ∧ Aside0 (Kd.R Kd.bool 4 w' w.heap.size (fun _ => True) (.slice (some ⟨go10, 0, none⟩) y276.length co10) x9_1) ∧ Aside0 (w'.heap[gb272]? = some (.cells #[(.slice A0_0 l0_0.length c0_0)] 76 (0, 0))) ∧ Aside0 (Below w.heap.size w w'))
          case atStart => exact ⟨(y273), (y279), (0), (by first | rfl | (simp; done) | (simp [*]; done)), H', ⟨Nat.le_refl _⟩, ⟨by (with_reducible repeat (first | apply Kd.R_alloc | apply Kd.R_drewN | apply Kd.R_drew)); exact HO275.out⟩, ⟨by (with_reducible repeat (first | apply Kd.R_alloc | apply Kd.R_drewN | apply Kd.R_drew)); exact HO278.out⟩, ⟨by (with_reducible repeat (first | refine blk_drewN ?_ _ | refine blk_drew ?_ | refine blk_alloc ?_ _)); exact BK272.out⟩, ⟨by repeat (first | (with_reducible first | exact HB.out | apply below_alloc | apply pw_below_drewN | apply below_drew1 | refine below_set ?_ GE272.out) | exact HB.out)⟩⟩
          case round =>
            clear H'
            try clear c1
            try clear p1
            try clear q1
            try clear hx1
            try clear c2
            try clear p2
            try clear c5
            try clear c5b0
            try clear c5b1
            try clear c6
            try clear c6b0
            try clear c6b1
            try clear p6
            try clear c8
            try clear c8b0
            try clear c9
            try clear c9b0
            try clear c10
            try clear p10
            try clear q10
            try clear hx10
            try clear hf10
            try clear hcz14_0
            try clear hfz14_0
            try clear hx10_0
            try clear p10
            try clear q10
            obtain ⟨x7_1, x9_1, x10_1, rfl, HA, HK1, HO_7, HO_9, BK272, HB⟩ := hrel
            have hl9_1 := (Kd.R_reads' HO_9.out).1
            rw [hl9_1] at HO_9
            (try simp only [hl9_1])
            (try simp only [hl9_1] at BK272)
            (try simp only [hl9_1] at HO_7)
            cases gk with
            | zero => exact absurd HA.out (by simp [spec_l1Sub.l0])
            | succ k1 =>
              have H := HA.out
              clear HA
              simp only [spec_l1Sub.l0] at H
              have HL19 := Aside0.mk H
              clear H
              obtain ⟨Ao20, co20, eo20⟩ := Kd.R_slice HO_7.out
              subst eo20
              go_upto_if 36 with (fail)
              have H := HL19.out
              clear HL19
              by_cases c21 : x10_1 < (x7_1.length : Int)
              · rw [if_pos c21] at H
                have c21b0 : decide (x10_1 < (x7_1.length : Int)) = true := decide_eq_true c21
                clear c21
                (first | rw [c21b0] | (simp only [i64_w, i32_w]; rw [c21b0]) | simp only [c21b2, Bool.not_false, Bool.not_true] | skip)
                by_cases c22 : 0 ≤ x10_1
                · rw [if_pos c22] at H
                  have c22b0 : decide (0 ≤ x10_1) = true := decide_eq_true c22
                  clear c22
                  replace H := Option.bind_eq_some_iff.mp H
                  obtain ⟨⟨t281, t284⟩, A230, H⟩ := H
                  replace H : (if t284 = true then (spec_l1Sub.l1 k1 x7_1 (l0_0.length : Int) x9_1 x10_1 t281 0 l0_0) else (some false)) = some r := H
                  have A23 := Aside0.mk A230
                  clear A230
                  have HL24 := Aside0.mk H
                  clear H
                  try go_wp2
                  have n0_ := Aside0.mk (Kd.R_drew HO_7.out)
                  have n1_ := Aside0.mk (Kd.R_drew HO_9.out)
                  have n2_ := Aside0.mk (blk_drew BK272.out)
                  have n3_ := Aside0.mk (below_drew1 HB.out)
                  clear HO_7
                  clear HO_9
                  clear BK272
                  clear HB
                  have HO_7 := n0_
                  have HO_9 := n1_
                  have BK272 := n2_
                  have HB := n3_
                  clear n0_ n1_ n2_ n3_
                  have p280 : 0 ≤ (x10_1 : Int) := of_decide_eq_true (by first | (with_reducible assumption) | assumption)
                  have q280 : x10_1 < (x7_1.length : Int) := of_decide_eq_true (by first | (with_reducible assumption) | assumption)
                  obtain ⟨ad280, e280, hx280_0, hx280_1⟩ := at_T186 (Kd.R_reads' HO_7.out).2.2 x10_1 p280 q280
                  cases e280
                  replace p280 := eq_true p280
                  replace q280 := eq_true q280
                  refine start_ (n := 11) (S := fun w' => w'.cell? ⟨gb272, 0, none⟩ = some (.slice A0_0 l0_0.length c0_0) ∧ w'.cell? (ad280.add ((x10_1).toNat * 2)) = some (.int .i64 ((rd_T186 x7_1 x10_1).f0)) ∧ w'.cell? ⟨(ad280.add ((x10_1).toNat * 2)).block, (ad280.add ((x10_1).toNat * 2)).off + 1, none⟩ = some (.int .i64 ((rd_T186 x7_1 x10_1).f1))) (ds := []) #[false, false, false, false, false, false, false, false, false, false, false] (by kernel_rfl) rfl rfl ⟨(blk_cell BK272.out 0).trans rfl, hx280_0, hx280_1⟩ (fun hHeld => ?_); refine with_tabW spec_l1Sub.tab8 spec_l1Sub.bits8 (fun HT_ HW_ => ?_)
                  generalize wr.drew = w25 at HO_7 HO_9 BK272 HB hx280_0 hx280_1 hHeld ⊢
                  refine pure_ (i := 1) (N := some 41) (v := ?_) (a' := ?_) #[false, true, false, false, false, false, false, false, false, false, false] rfl rfl (any_of HT_.out (by kernel_rfl)) (fun _ _ _ h => h) (Or.inl ⟨by rfl, ?_⟩) ?_ ?_
                  rotate_left
                  · intro w'
                    go_simp
                    with_reducible rfl
                  rotate_left
                  · simp only [Act.put, sA_, i64_w, i32_w]
                    rfl
                  refine pure_ (i := 2) (N := some 42) (v := ?_) (a' := ?_) #[false, true, true, false, false, false, false, false, false, false, false] rfl rfl (any_of HT_.out (by kernel_rfl)) (fun _ _ _ h => h) (Or.inl ⟨by rfl, ?_⟩) ?_ ?_
                  rotate_left
                  · intro w'
                    go_simp
                    with_reducible rfl
                  rotate_left
                  · simp only [Act.put, sA_, i64_w, i32_w]
                    rfl
                  refine pure_ (i := 3) (N := some 43) (v := ?_) (a' := ?_) #[false, true, true, true, false, false, false, false, false, false, false] rfl rfl (any_of HT_.out (by kernel_rfl)) (fun _ _ _ h => h) (Or.inl ⟨by rfl, ?_⟩) ?_ ?_
                  rotate_left
                  · intro w'
                    go_simp
                    with_reducible rfl
                  rotate_left
                  · simp only [Act.put, sA_, i64_w, i32_w]
                    rfl
                  refine take_ (i := 0) (N := some 40) (v := ?_) (a' := ?_) #[true, true, true, true, false, false, false, false, false, false, false] rfl rfl (take_ofW HT_.out HW_.out (by kernel_rfl)) (fun _ _ _ h => h) (Or.inl ⟨by rfl, ?_⟩) hHeld ?_ ?_
                  rotate_left
                  · rintro w' ⟨s0, s1, s2⟩
                    go_simp
                    with_reducible rfl
                  rotate_left
                  · simp only [Act.put, sA_, i64_w, i32_w]
                    rfl
                  refine take_ (i := 4) (N := some 44) (v := ?_) (a' := ?_) #[true, true, true, true, true, false, false, false, false, false, false] rfl rfl (take_ofW HT_.out HW_.out (by kernel_rfl)) (fun _ _ _ h => h) (Or.inl ⟨by rfl, ?_⟩) hHeld ?_ ?_
                  rotate_left
                  · rintro w' ⟨s0, s1, s2⟩
                    go_simp
                    with_reducible rfl
                  rotate_left
                  · simp only [Act.put, sA_, i64_w, i32_w]
                    rfl
                  refine one_ (i := 5) (N := some 45) #[true, true, true, true, true, true, false, false, false, false, false] rfl rfl (one_of HT_.out (by kernel_rfl)) (by decide) (fun K hK => ?_)
                  refine goes_ Tryd.func143 (by kernel_rfl) rfl #[.agg #[.slice A0_0 l0_0.length c0_0], .agg #[.int .i64 ((rd_T186 x7_1 x10_1).f0), .int .i64 ((rd_T186 x7_1 x10_1).f1)]] (by rfl) rfl rfl (by (try simp only [List.map_toArray, List.map_cons, List.map_nil]); first | done | rfl | (simp only [List.length_drop, List.length_take]; rfl)) ?_
                  with_reducible refine (spec_l1Demands.calls k1 _ _ l0_0 ((rd_T186 x7_1 x10_1).f0) ((rd_T186 x7_1 x10_1).f1) t281 t284 _ ?side1 ?side2 A23.out).mono ?_
                  (case side1 => repeat (first | exact (Kd.C_below HR0_0.out HB.out) | (with_reducible refine Kd.C_alloc ?_ _) | (with_reducible refine Kd.C_drewN ?_ _) | (with_reducible refine Kd.C_drew ?_)))
                  (case side2 => exact HC0_0.out)
                  rintro e w26 ⟨v282, rfl, ho0, hb⟩
                  have HS1_ := (hb.cell (World.block_lt_of_cell? _ _ (hHeld.2.1))).trans (hHeld.2.1)
                  have HS2_ := (hb.cell (World.block_lt_of_cell? _ _ (hHeld.2.2))).trans (hHeld.2.2)
                  refine ⟨_, rfl, ?_⟩
                  have hb1_ := fromP HB.out hb (by repeat (first | (with_reducible exact Below.refl _ _) | apply below_alloc | apply pw_below_drewN | apply below_drew1))
                  have hb0_ := below_step hb1_ hb
                  have hW_ := below_step HB.out hb1_
                  have n0_ := Aside0.mk (Kd.R_elder' (Kd.R_below HO_7.out hb1_) (Kd.R_base ho0) hb)
                  have n2_ := Aside0.mk (Kd.R_lower (Kd.R_new' ho0 (Kd.R_lt (Kd.R_below HO_7.out hb1_))) (below_size hW_))
                  replace HO_9 := kR HO_9 hb0_
                  replace BK272 := kB BK272 hb0_
                  replace HB := kH HB hb0_
                  clear HO_7
                  have HO_7 := n0_
                  have HO283 := n2_
                  clear hb1_ hb0_ hW_ n0_ n2_
                  (try clear hb)
                  (try clear hb2)
                  (try clear hk)
                  (try clear hi)
                  (try clear ho0)
                  refine hK.out _ _ ⟨(blk_cell BK272.out 0).trans rfl, HS1_, HS2_⟩ (fun hHeld => ?_)
                  clear hK K
                  refine norm_ (a' := ?_) ?_ ?_
                  rotate_left
                  · show Act.put _ (some 45) _ = _
                    simp only [Act.put, sA_, i64_w, i32_w]
                    rfl
                  refine pure_ (i := 6) (N := some 39) (v := ?_) (a' := ?_) #[true, true, true, true, true, true, true, false, false, false, false] rfl rfl (any_of HT_.out (by kernel_rfl)) (fun _ _ _ h => h) (Or.inl ⟨by rfl, ?_⟩) ?_ ?_
                  rotate_left
                  · intro w'
                    go_simp
                    with_reducible rfl
                  rotate_left
                  · simp only [Act.put, sA_, i64_w, i32_w]
                    rfl
                  refine pure_ (i := 7) (N := some 46) (v := ?_) (a' := ?_) #[true, true, true, true, true, true, true, true, false, false, false] rfl rfl (any_of HT_.out (by kernel_rfl)) (fun _ _ _ h => h) (Or.inl ⟨by rfl, ?_⟩) ?_ ?_
                  rotate_left
                  · intro w'
                    go_simp
                    with_reducible rfl
                  rotate_left
                  · simp only [Act.put, sA_, i64_w, i32_w]
                    rfl
                  refine pure_ (i := 8) (N := some 47) (v := ?_) (a' := ?_) #[true, true, true, true, true, true, true, true, true, false, false] rfl rfl (any_of HT_.out (by kernel_rfl)) (fun _ _ _ h => h) (Or.inl ⟨by rfl, ?_⟩) ?_ ?_
                  rotate_left
                  · intro w'
                    go_simp
                    with_reducible rfl
                  rotate_left
                  · simp only [Act.put, sA_, i64_w, i32_w]
                    rfl
                  refine pure_ (i := 9) (N := some 11) (v := ?_) (a' := ?_) #[true, true, true, true, true, true, true, true, true, true, false] rfl rfl (any_of HT_.out (by kernel_rfl)) (fun _ _ _ h => h) (Or.inl ⟨by rfl, ?_⟩) ?_ ?_
                  rotate_left
                  · intro w'
                    go_simp
                    with_reducible rfl
                  rotate_left
                  · simp only [Act.put, sA_, i64_w, i32_w]
                    rfl
                  refine pure_ (i := 10) (N := some 12) (v := ?_) (a' := ?_) #[true, true, true, true, true, true, true, true, true, true, true] rfl rfl (any_of HT_.out (by kernel_rfl)) (fun _ _ _ h => h) (Or.inl ⟨by rfl, ?_⟩) ?_ ?_
                  rotate_left
                  · intro w'
                    go_simp
                    with_reducible rfl
                  rotate_left
                  · simp only [Act.put, sA_, i64_w, i32_w]
                    rfl
                  refine done_ (done_of HT_.out (by kernel_rfl)) ?_
                  go_upto_if 49 with (fail)
                  have H := HL24.out
                  clear HL24
                  by_cases c27 : t284 = true
                  · subst c27
                    have H1 : (spec_l1Sub.l1 k1 x7_1 (l0_0.length : Int) x9_1 x10_1 t281 0 l0_0) = some r := by rw [if_pos rfl] at H; exact H
                    clear H
                    have H := H1
                    clear H1
                    have H' := Aside0.mk H
                    clear H
                    go_wp2
                    go_loopg [7, 13] k1 (fun kq v7 v13 w' => ∃ (x7_2 : List (S186)) (x9_2 : List Bool) (x13_2 : Int), v13 = .int .i64 x13_2 ∧ Aside0 (spec_l1Sub.l1 kq x7_2 (l0_0.length : Int) x9_2 x10_1 t281 x13_2 l0_0 = some r) ∧ Aside0 (kq ≤ k1) ∧ Aside0 (Kd.R k186 186 w' w.heap.size (fun k_ => some k_ ≠ (v282 : Value).ownBlock) v7 x7_2) ∧ Aside0 (Kd.R Kd.bool 4 w' w.heap.size (fun _ => True) (.slice (some ⟨go10, 0, none⟩) x9_1.length co10) x9_2) ∧ Aside0 (Kd.R k186 186 w' w.heap.size (fun k_ => some k_ ≠ (v7 : Value).ownBlock) v282 t281) ∧ Aside0 (w'.heap[gb272]? = some (.cells #[(.slice A0_0 l0_0.length c0_0)] 76 (0, 0))) ∧ Aside0 (Below w.heap.size w w'))
                    case atStart => exact ⟨(x7_1), (x9_1), (0), (by first | rfl | (simp; done) | (simp [*]; done)), H', ⟨Nat.le_refl _⟩, ⟨by (try simp only [hl9_1]); (with_reducible repeat (first | apply Kd.R_alloc | apply Kd.R_drewN | apply Kd.R_drew)); exact Kd.R_mono HO_7.out (fun _ hk => hk.2)⟩, ⟨by (try simp only [hl9_1]); (with_reducible repeat (first | apply Kd.R_alloc | apply Kd.R_drewN | apply Kd.R_drew)); exact HO_9.out⟩, ⟨by (try simp only [hl9_1]); (with_reducible repeat (first | apply Kd.R_alloc | apply Kd.R_drewN | apply Kd.R_drew)); exact Kd.R_mono HO283.out (fun _ hk => hk.2)⟩, ⟨by (try simp only [hl9_1]); (with_reducible repeat (first | refine blk_drewN ?_ _ | refine blk_drew ?_ | refine blk_alloc ?_ _)); exact BK272.out⟩, ⟨by repeat (first | (with_reducible first | exact HB.out | apply below_alloc | apply pw_below_drewN | apply below_drew1 | refine below_set ?_ GE272.out) | exact HB.out)⟩⟩
                    case round =>
                      clear H'
                      try clear c1
                      try clear p1
                      try clear q1
                      try clear hx1
                      try clear c2
                      try clear p2
                      try clear q2
                      try clear hx2
                      try clear c5
                      try clear c5b0
                      try clear c5b1
                      try clear c6
                      try clear c6b0
                      try clear c6b1
                      try clear p6
                      try clear c8
                      try clear c8b0
                      try clear c9
                      try clear c9b0
                      try clear c10
                      try clear p10
                      try clear q10
                      try clear hx10
                      try clear hf10
                      try clear c14
                      try clear c21
                      try clear c21b0
                      try clear c21b2
                      try clear c22
                      try clear c22b0
                      try clear c27
                      try clear hcz14_0
                      try clear hfz14_0
                      try clear hx10_0
                      try clear hx280_0
                      try clear hx280_1
                      try clear p1
                      try clear p10
                      try clear p2
                      try clear p280
                      try clear p6
                      try clear q1
                      try clear q10
                      try clear q280
                      obtain ⟨x7_2, x9_2, x13_2, rfl, HA, HK2, HO_7, HO_9, HO_11, BK272, HB⟩ := hrel
                      have hl9_2 := (Kd.R_reads' HO_9.out).1
                      rw [hl9_2] at HO_9
                      (try simp only [hl9_2])
                      (try simp only [hl9_2] at BK272)
                      (try simp only [hl9_2] at HO_7)
                      (try simp only [hl9_2] at HO_11)
                      cases gk with
                      | zero => exact absurd HA.out (by simp [spec_l1Sub.l1])
                      | succ k2 =>
                        have H := HA.out
                        clear HA
                        simp only [spec_l1Sub.l1] at H
                        have HL28 := Aside0.mk H
                        clear H
                        obtain ⟨Ao29, co29, eo29⟩ := Kd.R_slice HO_11.out
                        subst eo29
                        go_upto_if 53 with (fail)
                        have H := HL28.out
                        clear HL28
                        by_cases c30 : x13_2 < (t281.length : Int)
                        · rw [if_pos c30] at H
                          have c30b0 : decide (x13_2 < (t281.length : Int)) = true := decide_eq_true c30
                          clear c30
                          (first | rw [c30b0] | (simp only [i64_w, i32_w]; rw [c30b0]) | simp only [c30b2, Bool.not_false, Bool.not_true] | skip)
                          by_cases c31 : 0 ≤ x13_2
                          · rw [if_pos c31] at H
                            have c31b0 : decide (0 ≤ x13_2) = true := decide_eq_true c31
                            clear c31
                            obtain ⟨ji32, hji32⟩ : ∃ j_ : Int, (wrap64 ((wrap64 (((rd_T186 t281 x13_2).f0) * (l0_0.length : Int))) + ((rd_T186 t281 x13_2).f1))) = j_ := ⟨_, rfl⟩
                            replace H : (if 0 ≤ (ji32) then (if (ji32) < (x9_2.length : Int) then (if (rdOf false x9_2 (ji32) = true) then (spec_l1Sub.l1 k2 x7_2 (l0_0.length : Int) x9_2 x10_1 t281 (wrap64 (x13_2 + 1)) l0_0) else (if x7_2.length < 8796093022208 then (spec_l1Sub.l1 k2 (x7_2 ++ [(⟨(rd_T186 t281 x13_2).f0, (rd_T186 t281 x13_2).f1⟩ : S186)]) (l0_0.length : Int) (x9_2.set ((ji32) : Int).toNat true) x10_1 t281 (wrap64 (x13_2 + 1)) l0_0) else (none))) else (none)) else (none)) = some r := by first | (rw [hji32] at H; exact H) | (simp only [hji32] at H ⊢; exact H)
                            have hji32w : (IntKind.i64.wrap ((wrap64 (((rd_T186 t281 x13_2).f0) * (l0_0.length : Int))) + ((rd_T186 t281 x13_2).f1))) = ji32 := (i64_w _).trans hji32
                            by_cases c33 : 0 ≤ (ji32)
                            · rw [if_pos c33] at H
                              have c33b0 : decide (0 ≤ (ji32)) = true := decide_eq_true c33
                              clear c33
                              by_cases c34 : (ji32) < (x9_2.length : Int)
                              · rw [if_pos c34] at H
                                have c34b0 : decide ((ji32) < (x9_2.length : Int)) = true := decide_eq_true c34
                                clear c34
                                have HL35 := Aside0.mk H
                                clear H
                                try go_wp2
                                have n0_ := Aside0.mk (Kd.R_drew HO_7.out)
                                have n1_ := Aside0.mk (Kd.R_drew HO_9.out)
                                have n2_ := Aside0.mk (Kd.R_drew HO_11.out)
                                have n3_ := Aside0.mk (blk_drew BK272.out)
                                have n4_ := Aside0.mk (below_drew1 HB.out)
                                clear HO_7
                                clear HO_9
                                clear HO_11
                                clear BK272
                                clear HB
                                have HO_7 := n0_
                                have HO_9 := n1_
                                have HO_11 := n2_
                                have BK272 := n3_
                                have HB := n4_
                                clear n0_ n1_ n2_ n3_ n4_
                                have p285 : 0 ≤ (x13_2 : Int) := of_decide_eq_true (by first | (with_reducible assumption) | assumption)
                                have q285 : x13_2 < (t281.length : Int) := of_decide_eq_true (by first | (with_reducible assumption) | assumption)
                                obtain ⟨ad285, e285, hx285_0, hx285_1⟩ := at_T186 (Kd.R_reads' HO_11.out).2.2 x13_2 p285 q285
                                cases e285
                                replace p285 := eq_true p285
                                replace q285 := eq_true q285
                                have p286 : 0 ≤ (x13_2 : Int) := of_decide_eq_true (by first | (with_reducible assumption) | assumption)
                                have q286 : x13_2 < (t281.length : Int) := of_decide_eq_true (by first | (with_reducible assumption) | assumption)
                                obtain ⟨ad286, e286, hx286_0, hx286_1⟩ := at_T186 (Kd.R_reads' HO_11.out).2.2 x13_2 p286 q286
                                obtain rfl : ad285 = ad286 := (by injection e286)
                                replace p286 := eq_true p286
                                replace q286 := eq_true q286
                                refine start_ (n := 14) (S := fun w' => w'.cell? (ad285.add ((x13_2).toNat * 2)) = some (.int .i64 ((rd_T186 t281 x13_2).f0)) ∧ w'.cell? ⟨(ad285.add ((x13_2).toNat * 2)).block, (ad285.add ((x13_2).toNat * 2)).off + 1, none⟩ = some (.int .i64 ((rd_T186 t281 x13_2).f1)) ∧ w'.cell? (ad285.add ((x13_2).toNat * 2)) = some (.int .i64 ((rd_T186 t281 x13_2).f0)) ∧ w'.cell? ⟨(ad285.add ((x13_2).toNat * 2)).block, (ad285.add ((x13_2).toNat * 2)).off + 1, none⟩ = some (.int .i64 ((rd_T186 t281 x13_2).f1))) (ds := []) #[false, false, false, false, false, false, false, false, false, false, false, false, false, false] (by kernel_rfl) rfl rfl ⟨hx285_0, hx285_1, hx286_0, hx286_1⟩ (fun hHeld => ?_); refine with_tabW spec_l1Sub.tab14 spec_l1Sub.bits14 (fun HT_ HW_ => ?_)
                                generalize wr.drew = w36 at HO_7 HO_9 HO_11 BK272 HB hx285_0 hx285_1 hx286_0 hx286_1 hHeld ⊢
                                refine pure_ (i := 0) (N := some 56) (v := ?_) (a' := ?_) #[true, false, false, false, false, false, false, false, false, false, false, false, false, false] rfl rfl (any_of HT_.out (by kernel_rfl)) (fun _ _ _ h => h) (Or.inl ⟨by rfl, ?_⟩) ?_ ?_
                                rotate_left
                                · intro w'
                                  go_simp
                                  with_reducible rfl
                                rotate_left
                                · simp only [Act.put, sA_, i64_w, i32_w]
                                  rfl
                                refine pure_ (i := 1) (N := some 57) (v := ?_) (a' := ?_) #[true, true, false, false, false, false, false, false, false, false, false, false, false, false] rfl rfl (any_of HT_.out (by kernel_rfl)) (fun _ _ _ h => h) (Or.inl ⟨by rfl, ?_⟩) ?_ ?_
                                rotate_left
                                · intro w'
                                  go_simp
                                  with_reducible rfl
                                rotate_left
                                · simp only [Act.put, sA_, i64_w, i32_w]
                                  rfl
                                refine pure_ (i := 2) (N := some 58) (v := ?_) (a' := ?_) #[true, true, true, false, false, false, false, false, false, false, false, false, false, false] rfl rfl (any_of HT_.out (by kernel_rfl)) (fun _ _ _ h => h) (Or.inl ⟨by rfl, ?_⟩) ?_ ?_
                                rotate_left
                                · intro w'
                                  go_simp
                                  with_reducible rfl
                                rotate_left
                                · simp only [Act.put, sA_, i64_w, i32_w]
                                  rfl
                                refine pure_ (i := 3) (N := some 59) (v := ?_) (a' := ?_) #[true, true, true, true, false, false, false, false, false, false, false, false, false, false] rfl rfl (any_of HT_.out (by kernel_rfl)) (fun _ _ _ h => h) (Or.inl ⟨by rfl, ?_⟩) ?_ ?_
                                rotate_left
                                · intro w'
                                  go_simp
                                  with_reducible rfl
                                rotate_left
                                · simp only [Act.put, sA_, i64_w, i32_w]
                                  rfl
                                refine pure_ (i := 5) (N := some 61) (v := ?_) (a' := ?_) #[true, true, true, true, false, true, false, false, false, false, false, false, false, false] rfl rfl (any_of HT_.out (by kernel_rfl)) (fun _ _ _ h => h) (Or.inl ⟨by rfl, ?_⟩) ?_ ?_
                                rotate_left
                                · intro w'
                                  go_simp
                                  with_reducible rfl
                                rotate_left
                                · simp only [Act.put, sA_, i64_w, i32_w]
                                  rfl
                                refine pure_ (i := 7) (N := some 63) (v := ?_) (a' := ?_) #[true, true, true, true, false, true, false, true, false, false, false, false, false, false] rfl rfl (any_of HT_.out (by kernel_rfl)) (fun _ _ _ h => h) (Or.inl ⟨by rfl, ?_⟩) ?_ ?_
                                rotate_left
                                · intro w'
                                  go_simp
                                  with_reducible rfl
                                rotate_left
                                · simp only [Act.put, sA_, i64_w, i32_w]
                                  rfl
                                refine pure_ (i := 8) (N := some 64) (v := ?_) (a' := ?_) #[true, true, true, true, false, true, false, true, true, false, false, false, false, false] rfl rfl (any_of HT_.out (by kernel_rfl)) (fun _ _ _ h => h) (Or.inl ⟨by rfl, ?_⟩) ?_ ?_
                                rotate_left
                                · intro w'
                                  go_simp
                                  with_reducible rfl
                                rotate_left
                                · simp only [Act.put, sA_, i64_w, i32_w]
                                  rfl
                                refine pure_ (i := 9) (N := some 65) (v := ?_) (a' := ?_) #[true, true, true, true, false, true, false, true, true, true, false, false, false, false] rfl rfl (any_of HT_.out (by kernel_rfl)) (fun _ _ _ h => h) (Or.inl ⟨by rfl, ?_⟩) ?_ ?_
                                rotate_left
                                · intro w'
                                  go_simp
                                  with_reducible rfl
                                rotate_left
                                · simp only [Act.put, sA_, i64_w, i32_w]
                                  rfl
                                refine pure_ (i := 10) (N := some 66) (v := ?_) (a' := ?_) #[true, true, true, true, false, true, false, true, true, true, true, false, false, false] rfl rfl (any_of HT_.out (by kernel_rfl)) (fun _ _ _ h => h) (Or.inl ⟨by rfl, ?_⟩) ?_ ?_
                                rotate_left
                                · intro w'
                                  go_simp
                                  with_reducible rfl
                                rotate_left
                                · simp only [Act.put, sA_, i64_w, i32_w]
                                  rfl
                                refine take_ (i := 4) (N := some 60) (v := ?_) (a' := ?_) #[true, true, true, true, true, true, false, true, true, true, true, false, false, false] rfl rfl (take_ofW HT_.out HW_.out (by kernel_rfl)) (fun _ _ _ h => h) (Or.inl ⟨by rfl, ?_⟩) hHeld ?_ ?_
                                rotate_left
                                · rintro w' ⟨s0, s1, s2, s3⟩
                                  go_simp
                                  with_reducible rfl
                                rotate_left
                                · simp only [Act.put, sA_, i64_w, i32_w]
                                  rfl
                                refine pure_ (i := 6) (N := some 62) (v := ?_) (a' := ?_) #[true, true, true, true, true, true, true, true, true, true, true, false, false, false] rfl rfl (any_of HT_.out (by kernel_rfl)) (fun _ _ _ h => h) (Or.inl ⟨by rfl, ?_⟩) ?_ ?_
                                rotate_left
                                · intro w'
                                  go_simp
                                  with_reducible rfl
                                rotate_left
                                · simp only [Act.put, sA_, i64_w, i32_w]
                                  rfl
                                refine take_ (i := 11) (N := some 67) (v := ?_) (a' := ?_) #[true, true, true, true, true, true, true, true, true, true, true, true, false, false] rfl rfl (take_ofW HT_.out HW_.out (by kernel_rfl)) (fun _ _ _ h => h) (Or.inl ⟨by rfl, ?_⟩) hHeld ?_ ?_
                                rotate_left
                                · rintro w' ⟨s0, s1, s2, s3⟩
                                  go_simp
                                  with_reducible rfl
                                rotate_left
                                · simp only [Act.put, sA_, i64_w, i32_w]
                                  rfl
                                refine pure_ (i := 12) (N := some 68) (v := ?_) (a' := ?_) #[true, true, true, true, true, true, true, true, true, true, true, true, true, false] rfl rfl (any_of HT_.out (by kernel_rfl)) (fun _ _ _ h => h) (Or.inl ⟨by rfl, ?_⟩) ?_ ?_
                                rotate_left
                                · intro w'
                                  go_simp
                                  with_reducible rfl
                                rotate_left
                                · simp only [Act.put, sA_, i64_w, i32_w]
                                  rfl
                                refine pure_ (i := 13) (N := some 14) (v := ?_) (a' := ?_) #[true, true, true, true, true, true, true, true, true, true, true, true, true, true] rfl rfl (any_of HT_.out (by kernel_rfl)) (fun _ _ _ h => h) (Or.inl ⟨by rfl, ?_⟩) ?_ ?_
                                rotate_left
                                · intro w'
                                  go_simp
                                  with_reducible rfl
                                rotate_left
                                · simp only [Act.put, sA_, i64_w, i32_w]
                                  rfl
                                refine done_ (done_of HT_.out (by kernel_rfl)) ?_
                                have p287 : 0 ≤ ((ji32) : Int) := of_decide_eq_true (by first | (with_reducible assumption) | assumption)
                                have q287 : (ji32) < (x9_2.length : Int) := of_decide_eq_true (by first | (with_reducible assumption) | assumption)
                                obtain ⟨ad287, e287, hx287_0⟩ := Kd.at_bool (Kd.R_reads' HO_9.out).2.2 (ji32) p287 q287
                                obtain rfl : (⟨go10, 0, none⟩ : Addr) = ad287 := (by injection e287)
                                (first | simp only [add_plain] at hx287_0 | simp only [add_at] at hx287_0 | simp only [Addr.add, Nat.zero_add] at hx287_0 | skip)
                                replace p287 := eq_true p287
                                replace q287 := eq_true q287
                                go_upto_if 73 with (fail)
                                have H := HL35.out
                                clear HL35
                                obtain ⟨bq37, hbq37⟩ : ∃ b_ : Bool, b_ = (rdOf false x9_2 (ji32)) := ⟨_, rfl⟩
                                replace H : (if (bq37 = true) then (spec_l1Sub.l1 k2 x7_2 (l0_0.length : Int) x9_2 x10_1 t281 (wrap64 (x13_2 + 1)) l0_0) else (if x7_2.length < 8796093022208 then (spec_l1Sub.l1 k2 (x7_2 ++ [(⟨(rd_T186 t281 x13_2).f0, (rd_T186 t281 x13_2).f1⟩ : S186)]) (l0_0.length : Int) (x9_2.set ((ji32) : Int).toNat true) x10_1 t281 (wrap64 (x13_2 + 1)) l0_0) else (none))) = some r := by rw [← hbq37] at H; exact H
                                have Nbq37 := Aside0.mk hbq37
                                clear hbq37
                                (try rw [← Nbq37.out])
                                by_cases c38 : (bq37 = true)
                                · subst c38
                                  have H1 : (spec_l1Sub.l1 k2 x7_2 (l0_0.length : Int) x9_2 x10_1 t281 (wrap64 (x13_2 + 1)) l0_0) = some r := by rw [if_pos rfl] at H; exact H
                                  clear H
                                  have H := H1
                                  clear H1
                                  have H' := Aside0.mk H
                                  clear H
                                  go_wp2
                                  (try simp only [← hl9_2])
                                  go_roundg k2
                                  case measure => have := HK1.out; have := HK2.out; omega
                                  case rel => exact ⟨(x7_2), (x9_2), (wrap64 (x13_2 + 1)), (by first | rfl | (simp; done) | (simp [*]; done)), H', ⟨by have := HK1.out; have := HK2.out; omega⟩, ⟨by (try simp only [hl9_1]); (try simp only [hl9_2]); (with_reducible repeat (first | apply Kd.R_alloc | apply Kd.R_drewN | apply Kd.R_drew)); exact HO_7.out⟩, ⟨by (try simp only [hl9_1]); (try simp only [hl9_2]); (with_reducible repeat (first | apply Kd.R_alloc | apply Kd.R_drewN | apply Kd.R_drew)); exact HO_9.out⟩, ⟨by (try simp only [hl9_1]); (try simp only [hl9_2]); (with_reducible repeat (first | apply Kd.R_alloc | apply Kd.R_drewN | apply Kd.R_drew)); exact HO_11.out⟩, ⟨by (try simp only [hl9_1]); (try simp only [hl9_2]); (with_reducible repeat (first | refine blk_drewN ?_ _ | refine blk_drew ?_ | refine blk_alloc ?_ _)); exact BK272.out⟩, ⟨by repeat (first | (with_reducible first | exact HB.out | apply below_alloc | apply pw_below_drewN | apply below_drew1 | refine below_set ?_ GE272.out) | exact HB.out)⟩⟩
                                · replace c38 := Bool.eq_false_iff.mpr c38
                                  subst c38
                                  have H1 : (if x7_2.length < 8796093022208 then (spec_l1Sub.l1 k2 (x7_2 ++ [(⟨(rd_T186 t281 x13_2).f0, (rd_T186 t281 x13_2).f1⟩ : S186)]) (l0_0.length : Int) (x9_2.set ((ji32) : Int).toNat true) x10_1 t281 (wrap64 (x13_2 + 1)) l0_0) else (none)) = some r := by rw [if_neg (show ¬ (false = true) by decide)] at H; exact H
                                  clear H
                                  have H := H1
                                  clear H1
                                  obtain ⟨y288, hy288⟩ : ∃ y_ : List Bool, y_ = (x9_2.set ((ji32) : Int).toNat true) := ⟨_, rfl⟩
                                  replace H : (if x7_2.length < 8796093022208 then (spec_l1Sub.l1 k2 (x7_2 ++ [(⟨(rd_T186 t281 x13_2).f0, (rd_T186 t281 x13_2).f1⟩ : S186)]) (l0_0.length : Int) y288 x10_1 t281 (wrap64 (x13_2 + 1)) l0_0) else (none)) = some r := by first | (rw [hy288]; with_reducible exact H) | (have H2_ := (Option.bind_some _ _).symm.trans H; rw [hy288]; with_reducible exact H2_) | (have H2_ := (Option.bind_some _ _).symm.trans H; with_reducible exact H2_) | with_reducible exact H | (rw [hy288]; exact H) | exact H
                                  have Ny288 := Aside0.mk hy288
                                  clear hy288
                                  by_cases c40 : x7_2.length < 8796093022208
                                  · rw [if_pos c40] at H
                                    have LMc40 := Aside0.mk c40
                                    clear c40
                                    obtain ⟨y290, hy290⟩ : ∃ y_ : List (S186), y_ = (x7_2 ++ [(⟨(rd_T186 t281 x13_2).f0, (rd_T186 t281 x13_2).f1⟩ : S186)]) := ⟨_, rfl⟩
                                    replace H : (spec_l1Sub.l1 k2 y290 (l0_0.length : Int) y288 x10_1 t281 (wrap64 (x13_2 + 1)) l0_0) = some r := by first | (rw [hy290]; with_reducible exact H) | (have H2_ := (Option.bind_some _ _).symm.trans H; rw [hy290]; with_reducible exact H2_) | (have H2_ := (Option.bind_some _ _).symm.trans H; with_reducible exact H2_) | with_reducible exact H | (rw [hy290]; exact H) | exact H
                                    have Ny290 := Aside0.mk hy290
                                    clear hy290
                                    have H' := Aside0.mk H
                                    clear H
                                    have p39 : 0 ≤ ((ji32) : Int) := of_decide_eq_true (by first | (with_reducible assumption) | assumption)
                                    have q39 : ((ji32) : Int) < ((x9_2.length : Int) : Int) := of_decide_eq_true (by first | (with_reducible assumption) | assumption)
                                    obtain ⟨hx39_0, hf39_0⟩ := Kd.R_celln false HO_9.out ((ji32) : Int) p39 q39
                                    replace p39 := eq_true p39
                                    replace q39 := eq_true q39
                                    have HP41 := Kd.R_putg HO_9.out ((ji32) : Int) true
                                    go_wp2_with (first | ((with_reducible refine gate_store (t := 4) (p := 76) rfl ?_); refine store_event (t := 4) (p := 76) (v := ?vo_w42) (w1 := (w36.setCell ⟨go10, ((ji32) : Int).toNat, none⟩ (.bool true))) ?hg ?ho ?hn ?hr ?_; (case ho => rfl); (case hg => rfl); (case hn => rfl); (case hr => first | (go_simp; done) | (go_simp; rfl)); intro w42 hw; have hg : w36.grownBy w42 (some go10) := (by rw [hw]; exact HP41.2); have hp_ : Kd.R Kd.bool 4 w42 w.heap.size (fun _ => True) (.slice (some ⟨go10, 0, none⟩) x9_2.length co10) y288 := (by rw [hw, Ny288.out]; exact HP41.1); clear HP41; have n0_ := Aside0.mk (Kd.R_over' (v := (.slice (some ⟨go10, 0, none⟩) x9_2.length co10)) (by (with_reducible repeat (first | apply Kd.R_alloc | apply Kd.R_drewN | apply Kd.R_drew)); exact HO_7.out) (Kd.R_typed HO_9.out) (by decide) hg); have n1_ := Aside0.mk (hp_); have n2_ := Aside0.mk (Kd.R_over' (v := (.slice (some ⟨go10, 0, none⟩) x9_2.length co10)) (by (with_reducible repeat (first | apply Kd.R_alloc | apply Kd.R_drewN | apply Kd.R_drew)); exact HO_11.out) (Kd.R_typed HO_9.out) (by decide) hg); have n3_ := Aside0.mk (blk_grown (g := gb272) (o := .cells #[.slice A0_0 l0_0.length c0_0] 76 (0, 0)) (by (with_reducible repeat (first | refine blk_drewN ?_ _ | refine blk_drew ?_ | refine blk_alloc ?_ _)); exact BK272.out) hg (Kd.R_ne HO_9.out BK272.out (by decide))); have n4_ := Aside0.mk ((by rw [hw]; exact below_set (HB.out) GB10.out : Below w.heap.size w w42)); clear HO_7; clear HO_9; clear HO_11; clear BK272; clear HB; have HO_7 := n0_; have HO_9 := n1_; have HO_11 := n2_; have BK272 := n3_; have HB := n4_; clear n0_ n1_ n2_ n3_ n4_; clear hg hw hp_; have p289 : 0 ≤ (x13_2 : Int) := of_decide_eq_true (by first | (with_reducible assumption) | assumption); have q289 : x13_2 < (t281.length : Int) := of_decide_eq_true (by first | (with_reducible assumption) | assumption); obtain ⟨ad289, e289, hx289_0, hx289_1⟩ := at_T186 (Kd.R_reads' HO_11.out).2.2 x13_2 p289 q289; obtain rfl : ad285 = ad289 := (by injection e289); replace p289 := eq_true p289; replace q289 := eq_true q289) | ((with_reducible refine gate_builtin (b := .append) (xs := #[.tmp 77, .tmp 82]) rfl ?_); at_builtin; refine Kd.R_append k186 (w0 := w) w.heap.size rfl (.tmp 77) (.tmp 82) 187 186 (.agg #[(.int .i64 0), (.int .i64 0)]) 16 rfl Tryd.underlying187 info186 rfl (by decide) (by omega) u7 x7_2 (⟨(rd_T186 t281 x13_2).f0, (rd_T186 t281 x13_2).f1⟩ : S186) [.int .i64 ((rd_T186 t281 x13_2).f0), .int .i64 ((rd_T186 t281 x13_2).f1)] (fun k_ => some k_ ≠ (.slice (some ad285) t281.length co29 : Value).ownBlock) (fun _ => False) rfl rfl ?aP (fun _ hk => hk.elim) ?aF ?aO ?aB ?aS ?aL ?_; (case aP => exact k186_mkM _ _ _ (⟨(rd_T186 t281 x13_2).f0, (rd_T186 t281 x13_2).f1⟩ : S186)); (case aB => exact (by repeat (first | (with_reducible first | exact HB.out | apply below_alloc | apply pw_below_drewN | apply below_drew1 | refine below_set ?_ GE272.out) | exact HB.out))); (case aF => exact (fun k_ hk => Kd.fresh' (Kd.R_lt (by (with_reducible repeat (first | apply Kd.R_alloc | apply Kd.R_drewN | apply Kd.R_drew)); exact HO_11.out)) k_ hk)); (case aO => exact (by (with_reducible repeat (first | apply Kd.R_alloc | apply Kd.R_drewN | apply Kd.R_drew)); exact HO_7.out)); (case aS => exact (below_size (by repeat (first | (with_reducible first | exact HB.out | apply below_alloc | apply pw_below_drewN | apply below_drew1 | refine below_set ?_ GE272.out) | exact HB.out)))); (case aL => have := LMc40.out; omega); intro v291 w43 ho hb hg hat; rw [← Ny290.out] at ho; have n0_ := Aside0.mk (Kd.R_over' (by (with_reducible repeat (first | apply Kd.R_alloc | apply Kd.R_drewN | apply Kd.R_drew)); exact HO_9.out) (Kd.R_typed (by (with_reducible repeat (first | apply Kd.R_alloc | apply Kd.R_drewN | apply Kd.R_drew)); exact HO_7.out)) (by decide) hg); have n1_ := Aside0.mk (Kd.R_after (ok := (fun _ => True)) (by (with_reducible repeat (first | apply Kd.R_alloc | apply Kd.R_drewN | apply Kd.R_drew)); exact Kd.R_mono HO_11.out (fun _ hk => ⟨trivial, hk⟩)) hg hat); have n2_ := Aside0.mk (blk_grown (g := gb272) (o := .cells #[.slice A0_0 l0_0.length c0_0] 76 (0, 0)) (by (with_reducible repeat (first | refine blk_drewN ?_ _ | refine blk_drew ?_ | refine blk_alloc ?_ _)); exact BK272.out) hg (Kd.R_ne HO_7.out BK272.out (by decide))); have n3_ := Aside0.mk (hb); have n4_ := Aside0.mk (ho); clear HO_9; clear HO_11; clear BK272; clear HB; clear HO_7; have HO_9 := n0_; have HO_11 := n1_; have BK272 := n2_; have HB := n3_; have HO292 := n4_; clear n0_ n1_ n2_ n3_ n4_; clear ho hb hg hat))
                                    (try simp only [← hl9_2])
                                    go_roundg k2
                                    case measure => have := HK1.out; have := HK2.out; omega
                                    case rel => exact ⟨(y290), (y288), (wrap64 (x13_2 + 1)), (by first | rfl | (simp; done) | (simp [*]; done)), H', ⟨by have := HK1.out; have := HK2.out; omega⟩, ⟨by (try simp only [hl9_1]); (try simp only [hl9_2]); (with_reducible repeat (first | apply Kd.R_alloc | apply Kd.R_drewN | apply Kd.R_drew)); exact HO292.out⟩, ⟨by (try simp only [hl9_1]); (try simp only [hl9_2]); (with_reducible repeat (first | apply Kd.R_alloc | apply Kd.R_drewN | apply Kd.R_drew)); exact HO_9.out⟩, ⟨by (try simp only [hl9_1]); (try simp only [hl9_2]); (with_reducible repeat (first | apply Kd.R_alloc | apply Kd.R_drewN | apply Kd.R_drew)); exact Kd.R_mono HO_11.out (fun _ hk => hk.2)⟩, ⟨by (try simp only [hl9_1]); (try simp only [hl9_2]); (with_reducible repeat (first | refine blk_drewN ?_ _ | refine blk_drew ?_ | refine blk_alloc ?_ _)); exact BK272.out⟩, ⟨by repeat (first | (with_reducible first | exact HB.out | apply below_alloc | apply pw_below_drewN | apply below_drew1 | refine below_set ?_ GE272.out) | exact HB.out)⟩⟩
                                  · rw [if_neg c40] at H
                                    exact absurd H (by simp)
                              · rw [if_neg c34] at H
                                exact absurd H (by simp)
                            · rw [if_neg c33] at H
                              exact absurd H (by simp)
                          · rw [if_neg c31] at H
                            exact absurd H (by simp)
                        · rw [if_neg c30] at H
                          have c30b0 : decide (x13_2 < (t281.length : Int)) = false := decide_eq_false c30
                          clear c30
                          (first | rw [c30b0] | (simp only [i64_w, i32_w]; rw [c30b0]) | simp only [c30b2, Bool.not_false, Bool.not_true] | skip)
                          have H' := Aside0.mk H
                          clear H
                          go_wp2
                          (try simp only [← hl9_1, ← hl9_2])
                          go_roundg k2
                          case measure => have := HK1.out; have := HK2.out; omega
                          case rel => exact ⟨(x7_2), (x9_2), (wrap64 (x10_1 + 1)), (by first | rfl | (simp; done) | (simp [*]; done)), H', ⟨by have := HK1.out; have := HK2.out; omega⟩, ⟨by (try simp only [hl9_1]); (try simp only [hl9_2]); (with_reducible repeat (first | apply Kd.R_alloc | apply Kd.R_drewN | apply Kd.R_drew)); exact Kd.R_mono HO_7.out (fun _ hk => trivial)⟩, ⟨by (try simp only [hl9_1]); (try simp only [hl9_2]); (with_reducible repeat (first | apply Kd.R_alloc | apply Kd.R_drewN | apply Kd.R_drew)); exact HO_9.out⟩, ⟨by (try simp only [hl9_1]); (try simp only [hl9_2]); (with_reducible repeat (first | refine blk_drewN ?_ _ | refine blk_drew ?_ | refine blk_alloc ?_ _)); exact BK272.out⟩, ⟨by repeat (first | (with_reducible first | exact HB.out | apply below_alloc | apply pw_below_drewN | apply below_drew1 | refine below_set ?_ GE272.out) | exact HB.out)⟩⟩
                  · replace c27 := Bool.eq_false_iff.mpr c27
                    subst c27
                    have H1 : (some false) = some r := by rw [if_neg (show ¬ (false = true) by decide)] at H; exact H
                    clear H
                    have H := H1
                    clear H1
                    obtain rfl := Option.some.inj H
                    go_wp2
                    go_ret
                    exact ⟨by first | rfl | (simp [errW_none, errW_some] <;> rfl) | (simp only [← hji4, ← hji7]; first | rfl | (simp [errW_none, errW_some] <;> rfl)) | (simp [*, errW_none, errW_some] <;> rfl), by repeat (first | (with_reducible first | exact HB.out | apply below_alloc | apply pw_below_drewN | apply below_drew1 | refine below_set ?_ GE272.out) | exact HB.out)⟩
                · rw [if_neg c22] at H
                  exact absurd H (by simp)
              · rw [if_neg c21] at H
                have c21b0 : decide (x10_1 < (x7_1.length : Int)) = false := decide_eq_false c21
                clear c21
                (first | rw [c21b0] | (simp only [i64_w, i32_w]; rw [c21b0]) | simp only [c21b2, Bool.not_false, Bool.not_true] | skip)
                obtain rfl := Option.some.inj H
                go_wp2
                go_ret
                exact ⟨by first | rfl | (simp [errW_none, errW_some] <;> rfl) | (simp only [← hji4, ← hji7]; first | rfl | (simp [errW_none, errW_some] <;> rfl)) | (simp [*, errW_none, errW_some] <;> rfl), by repeat (first | (with_reducible first | exact HB.out | apply below_alloc | apply pw_below_drewN | apply below_drew1 | refine below_set ?_ GE272.out) | exact HB.out)⟩
        · rw [if_neg c9] at H
          exact absurd H (by simp)
      · rw [if_neg c8] at H
        exact absurd H (by simp)
    · rw [if_neg c6] at H
      exact absurd H (by simp)
  · rw [if_neg c5] at H
    exact absurd H (by simp)
end Go.Proofs.YtnbohlcibgfjaaaDoor.Gp
end
