/- A part of the proof of RowFnExactTokens: each text's theorems that it needs, packed by shake.py, a program of this work; Lean checks them. -/
import Derived.Test.YtiicaoiijhodkaaDoorVk2
import Derived.Test.YtiicaoiijhodkaaDoorVk3
section
namespace Go.Proofs.YtiicaoiijhodkaaDoor.Gp
open Go.RowKit Go.Proofs.YtiicaoiijhodkaaDoorW.PrintWords Go.Proofs.YtiicaoiijhodkaaDoorW.PrintLast Go.Proofs.YtiicaoiijhodkaaDoorW.PrintMore
set_option linter.unusedVariables false
set_option linter.unusedSimpArgs false
mutual
def spec_Tokens.l0 : Nat → ByteArray → List (S75) → Int → Option ((List (S75)))
  | 0, _, _, _ => none
  | k + 1, x0, x3, x4 => if x4 < (x0.size : Int) then (if 0 ≤ x4 then (if (bt x0 x4) = 32 then (spec_Tokens.j1 k x0 x3 x4 (bt x0 x4) 1 0 true) else (spec_Tokens.j1 k x0 x3 x4 (bt x0 x4) 1 0 ((bt x0 x4) == 10))) else (none)) else (some x3)
def spec_Tokens.j1 : Nat → ByteArray → List (S75) → Int → Int → Int → Int → Bool → Option ((List (S75)))
  | 0, _, _, _, _, _, _, _ => none
  | k + 1, x0, x3, x4, x5, x6, x7, x25 => if x25 = true then (if (-1) ≥ 0 then (if 0 ≤ x4 then (if x4 ≤ (wrap64 (x4 + x6)) then (if (wrap64 (x4 + x6)) ≤ (x0.size : Int) then (if x3.length < 4398046511104 then (spec_Tokens.l0 k x0 (x3 ++ [(⟨(-1), x0.extract (x4 : Int).toNat ((wrap64 (x4 + x6)) : Int).toNat, x4⟩ : S75)]) (wrap64 (x4 + x6))) else (none)) else (none)) else (none)) else (none)) else (spec_Tokens.l0 k x0 x3 (wrap64 (x4 + x6)))) else (if x5 = 35 then (spec_Tokens.l1 k x0 x3 x4 x6 (-1)) else (if x5 ≥ 97 then (spec_Tokens.j3 k x0 x3 x4 x5 x6 x7 (decide (x5 ≤ 122))) else (spec_Tokens.j3 k x0 x3 x4 x5 x6 x7 false)))
def spec_Tokens.l1 : Nat → ByteArray → List (S75) → Int → Int → Int → Option ((List (S75)))
  | 0, _, _, _, _, _ => none
  | k + 1, x0, x3, x4, x6, x7 => if (wrap64 (x4 + x6)) < (x0.size : Int) then (if 0 ≤ (wrap64 (x4 + x6)) then (if (bt x0 (wrap64 (x4 + x6))) = 10 then (if x7 ≥ 0 then (if 0 ≤ x4 then (if x4 ≤ (wrap64 (x4 + x6)) then (if (wrap64 (x4 + x6)) ≤ (x0.size : Int) then (if x3.length < 4398046511104 then (spec_Tokens.l0 k x0 (x3 ++ [(⟨x7, x0.extract (x4 : Int).toNat ((wrap64 (x4 + x6)) : Int).toNat, x4⟩ : S75)]) (wrap64 (x4 + x6))) else (none)) else (none)) else (none)) else (none)) else (spec_Tokens.l0 k x0 x3 (wrap64 (x4 + x6)))) else (spec_Tokens.l1 k x0 x3 x4 (wrap64 (x6 + 1)) x7)) else (none)) else (if x7 ≥ 0 then (if 0 ≤ x4 then (if x4 ≤ (wrap64 (x4 + x6)) then (if (wrap64 (x4 + x6)) ≤ (x0.size : Int) then (if x3.length < 4398046511104 then (spec_Tokens.l0 k x0 (x3 ++ [(⟨x7, x0.extract (x4 : Int).toNat ((wrap64 (x4 + x6)) : Int).toNat, x4⟩ : S75)]) (wrap64 (x4 + x6))) else (none)) else (none)) else (none)) else (none)) else (spec_Tokens.l0 k x0 x3 (wrap64 (x4 + x6))))
def spec_Tokens.j3 : Nat → ByteArray → List (S75) → Int → Int → Int → Int → Bool → Option ((List (S75)))
  | 0, _, _, _, _, _, _, _ => none
  | k + 1, x0, x3, x4, x5, x6, x7, x49 => if x49 = true then ((spec_l2Run.f k x0 x4 false).bind fun t246 => (if 0 ≤ x4 then (if x4 ≤ (wrap64 (x4 + t246)) then (if (wrap64 (x4 + t246)) ≤ (x0.size : Int) then ((spec_l2Class.f k (x0.extract (x4 : Int).toNat ((wrap64 (x4 + t246)) : Int).toNat)).bind fun t247 => (if t247 ≥ 0 then (if x3.length < 4398046511104 then (spec_Tokens.l0 k x0 (x3 ++ [(⟨t247, x0.extract (x4 : Int).toNat ((wrap64 (x4 + t246)) : Int).toNat, x4⟩ : S75)]) (wrap64 (x4 + t246))) else (none)) else (spec_Tokens.l0 k x0 x3 (wrap64 (x4 + t246))))) else (none)) else (none)) else (none))) else (if x5 ≥ 48 then (spec_Tokens.j4 k x0 x3 x4 x5 x6 x7 (decide (x5 ≤ 57))) else (spec_Tokens.j4 k x0 x3 x4 x5 x6 x7 false))
def spec_Tokens.j4 : Nat → ByteArray → List (S75) → Int → Int → Int → Int → Bool → Option ((List (S75)))
  | 0, _, _, _, _, _, _, _ => none
  | k + 1, x0, x3, x4, x5, x6, x7, x65 => if x65 = true then ((spec_l2Run.f k x0 x4 true).bind fun t251 => (if 0 ≤ x4 then (if x4 ≤ (wrap64 (x4 + t251)) then (if (wrap64 (x4 + t251)) ≤ (x0.size : Int) then ((spec_l2Class.f k (x0.extract (x4 : Int).toNat ((wrap64 (x4 + t251)) : Int).toNat)).bind fun t252 => (if t252 ≥ 0 then (if x3.length < 4398046511104 then (spec_Tokens.l0 k x0 (x3 ++ [(⟨t252, x0.extract (x4 : Int).toNat ((wrap64 (x4 + t251)) : Int).toNat, x4⟩ : S75)]) (wrap64 (x4 + t251))) else (none)) else (spec_Tokens.l0 k x0 x3 (wrap64 (x4 + t251))))) else (none)) else (none)) else (none))) else (if (wrap64 (x4 + 1)) < (x0.size : Int) then (if 0 ≤ x4 then (if x4 ≤ (wrap64 (x4 + 2)) then (if (wrap64 (x4 + 2)) ≤ (x0.size : Int) then (spec_Tokens.j5 k x0 x3 x4 x5 x6 x7 ((x0.extract (x4 : Int).toNat ((wrap64 (x4 + 2)) : Int).toNat).toList == ([45, 62] : List UInt8))) else (none)) else (none)) else (none)) else (spec_Tokens.j5 k x0 x3 x4 x5 x6 x7 false))
def spec_Tokens.j5 : Nat → ByteArray → List (S75) → Int → Int → Int → Int → Bool → Option ((List (S75)))
  | 0, _, _, _, _, _, _, _ => none
  | k + 1, x0, x3, x4, x5, x6, x7, x88 => if x88 = true then (if 4 ≥ 0 then (if 0 ≤ x4 then (if x4 ≤ (wrap64 (x4 + 2)) then (if (wrap64 (x4 + 2)) ≤ (x0.size : Int) then (if x3.length < 4398046511104 then (spec_Tokens.l0 k x0 (x3 ++ [(⟨4, x0.extract (x4 : Int).toNat ((wrap64 (x4 + 2)) : Int).toNat, x4⟩ : S75)]) (wrap64 (x4 + 2))) else (none)) else (none)) else (none)) else (none)) else (spec_Tokens.l0 k x0 x3 (wrap64 (x4 + 2)))) else ((spec_l2Sign.f k x5).bind fun t259 => (if t259 = true then (if 4 ≥ 0 then (if 0 ≤ x4 then (if x4 ≤ (wrap64 (x4 + x6)) then (if (wrap64 (x4 + x6)) ≤ (x0.size : Int) then (if x3.length < 4398046511104 then (spec_Tokens.l0 k x0 (x3 ++ [(⟨4, x0.extract (x4 : Int).toNat ((wrap64 (x4 + x6)) : Int).toNat, x4⟩ : S75)]) (wrap64 (x4 + x6))) else (none)) else (none)) else (none)) else (none)) else (spec_Tokens.l0 k x0 x3 (wrap64 (x4 + x6)))) else (if x7 ≥ 0 then (if 0 ≤ x4 then (if x4 ≤ (wrap64 (x4 + x6)) then (if (wrap64 (x4 + x6)) ≤ (x0.size : Int) then (if x3.length < 4398046511104 then (spec_Tokens.l0 k x0 (x3 ++ [(⟨x7, x0.extract (x4 : Int).toNat ((wrap64 (x4 + x6)) : Int).toNat, x4⟩ : S75)]) (wrap64 (x4 + x6))) else (none)) else (none)) else (none)) else (none)) else (spec_Tokens.l0 k x0 x3 (wrap64 (x4 + x6))))))
end
def spec_Tokens.f (k : Nat) (a0 : ByteArray) : Option ((List (S75))) := (some (([] : List (S75)) : List (S75))).bind fun y234 => (if (a0.size : Int) > 1000 then (some y234) else (spec_Tokens.l0 k a0 y234 0))
set_option maxHeartbeats 8000000 in
set_option maxRecDepth 100000 in
theorem spec_Tokens.calls (k : Nat) (a0 : ByteArray) (r : List (S75)) (w : World) (h : spec_Tokens.f k a0 = some r) :
    Calls Tryd.prog 17 #[.string a0] w fun e w' => ∃ v0_ : Value, e = .returned (v0_) ∧ Kd.R k75 75 w' w.heap.size (fun _ => True) v0_ r ∧ Below w.heap.size w w' := by
  have hu75 := Tryd.underlying75
  have HB := Aside0.mk (Below.refl w.heap.size w)
  have H : ((some (([] : List (S75)) : List (S75))).bind fun y234 => (if (a0.size : Int) > 1000 then (some y234) else (spec_Tokens.l0 k a0 y234 0))) = some r := h
  clear h
  obtain ⟨y234, hy234⟩ : ∃ y_ : List (S75), y_ = (([] : List (S75))) := ⟨_, rfl⟩
  replace H : (if (a0.size : Int) > 1000 then (some y234) else (spec_Tokens.l0 k a0 y234 0)) = some r := by first | (rw [hy234]; with_reducible exact H) | (have H2_ := (Option.bind_some _ _).symm.trans H; rw [hy234]; with_reducible exact H2_) | (have H2_ := (Option.bind_some _ _).symm.trans H; with_reducible exact H2_) | with_reducible exact H | (rw [hy234]; exact H) | exact H
  have Ny234 := Aside0.mk hy234
  clear hy234
  by_cases c2 : (a0.size : Int) > 1000
  · rw [if_pos c2] at H
    have c2b0 : decide (1000 < (a0.size : Int)) = true := decide_eq_true c2
    have c2b1 : decide (1000 < a0.size) = true := decide_eq_true (by omega)
    clear c2
    obtain rfl := Option.some.inj H
    go_enter Tryd.func17, Tryd.ntmps17
    go_wp2_with (first | ((with_reducible refine gate_dst (N := 8) rfl ?_); refine Kd.R_lit k75 _ 75 ?hg (N := 8) ?hd (xs := ([] : List (S75))) (inner := []) (ok := fun _ => True) (okp := fun _ => True) ?hr ?hp (fun _ hk => hk) trivial (Below.refl _ _) (Nat.le_refl _) (by simp) ?_; (case hd => rfl); (case hg => rfl); (case hr => first | (go_simp; done) | (go_simp; rfl)); (case hp => exact (Reps.none _ _)); intro v235 w3 ho4 hb hg_ hnew_; clear hg_ hnew_; (first | rw [← Ny234.out] at ho4 | (simp only [Int.reduceToNat] at ho4; rw [← Ny234.out] at ho4)); have n0_ := Aside0.mk (Kd.R_lower ho4 (below_size (by repeat (first | (with_reducible first | exact HB.out | apply below_alloc | apply pw_below_drewN | apply below_drew1) | exact HB.out)))); have n1_ := Aside0.mk (below_step (by repeat (first | (with_reducible first | exact HB.out | apply below_alloc | apply pw_below_drewN | apply below_drew1) | exact HB.out)) hb); clear HB; have HO236 := n0_; have HB := n1_; clear n0_ n1_; clear hb ho4))
    go_ret
    exact ⟨_, by first | rfl | (simp [errW_none, errW_some] <;> rfl) | (simp [*, errW_none, errW_some] <;> rfl), by (with_reducible repeat (first | apply Kd.R_alloc | apply Kd.R_drewN | apply Kd.R_drew)); exact HO236.out, by repeat (first | (with_reducible first | exact HB.out | apply below_alloc | apply pw_below_drewN | apply below_drew1) | exact HB.out)⟩
  · rw [if_neg c2] at H
    have c2b0 : decide (1000 < (a0.size : Int)) = false := decide_eq_false c2
    have c2b1 : decide (1000 < a0.size) = false := decide_eq_false (by omega)
    clear c2
    have H' := Aside0.mk H
    clear H
    go_enter Tryd.func17, Tryd.ntmps17
    go_wp2_with (first | ((with_reducible refine gate_dst (N := 8) rfl ?_); refine Kd.R_lit k75 _ 75 ?hg (N := 8) ?hd (xs := ([] : List (S75))) (inner := []) (ok := fun _ => True) (okp := fun _ => True) ?hr ?hp (fun _ hk => hk) trivial (Below.refl _ _) (Nat.le_refl _) (by simp) ?_; (case hd => rfl); (case hg => rfl); (case hr => first | (go_simp; done) | (go_simp; rfl)); (case hp => exact (Reps.none _ _)); intro v235 w5 ho6 hb hg_ hnew_; clear hg_ hnew_; (first | rw [← Ny234.out] at ho6 | (simp only [Int.reduceToNat] at ho6; rw [← Ny234.out] at ho6)); have n0_ := Aside0.mk (Kd.R_lower ho6 (below_size (by repeat (first | (with_reducible first | exact HB.out | apply below_alloc | apply pw_below_drewN | apply below_drew1) | exact HB.out)))); have n1_ := Aside0.mk (below_step (by repeat (first | (with_reducible first | exact HB.out | apply below_alloc | apply pw_below_drewN | apply below_drew1) | exact HB.out)) hb); clear HB; have HO236 := n0_; have HB := n1_; clear n0_ n1_; clear hb ho6))
    go_loopg [3, 4] k (fun kq v3 v4 w' => ∃ (x3_1 : List (S75)) (x4_1 : Int), v4 = .int .i64 x4_1 ∧ Aside0 (spec_Tokens.l0 kq a0 x3_1 x4_1 = some r) ∧ Aside0 (kq ≤ k) ∧ Aside0 (Kd.R k75 75 w' w.heap.size (fun _ => True) v3 x3_1) ∧ Aside0 (Below w.heap.size w w'))
    case atStart => exact ⟨(y234), (0), (by first | rfl | (simp; done) | (simp [*]; done)), H', ⟨Nat.le_refl _⟩, ⟨by (with_reducible repeat (first | apply Kd.R_alloc | apply Kd.R_drewN | apply Kd.R_drew)); exact HO236.out⟩, ⟨by repeat (first | (with_reducible first | exact HB.out | apply below_alloc | apply pw_below_drewN | apply below_drew1) | exact HB.out)⟩⟩
    case round =>
      clear H'
      try clear c1
      try clear c2
      try clear c2b0
      try clear c2b1
      try clear p2
      obtain ⟨x3_1, x4_1, rfl, HA, HK1, HO_3, HB⟩ := hrel
      cases gk with
      | zero => exact absurd HA.out (by simp [spec_Tokens.l0])
      | succ k1 =>
        have H := HA.out
        clear HA
        simp only [spec_Tokens.l0] at H
        by_cases c7 : x4_1 < (a0.size : Int)
        · rw [if_pos c7] at H
          have c7b0 : decide (x4_1 < (a0.size : Int)) = true := decide_eq_true c7
          clear c7
          by_cases c8 : 0 ≤ x4_1
          · rw [if_pos c8] at H
            have c8b0 : decide (0 ≤ x4_1) = true := decide_eq_true c8
            clear c8
            have HC10 := Aside0.mk H
            clear H
            have p9 : 0 ≤ (x4_1 : Int) := of_decide_eq_true (by first | (with_reducible assumption) | assumption)
            have q9 : x4_1 < (a0.size : Int) := of_decide_eq_true (by first | (with_reducible assumption) | assumption)
            have hx9 := bt_at a0 x4_1
            replace p9 := eq_true p9
            replace q9 := eq_true q9
            go_upto_region 9 with (fail)
            go_cut [25] (fun v25 wc => ∃ (kq : Nat) (x25_9 : Bool), v25 = .bool x25_9 ∧ Aside0 (spec_Tokens.j1 kq a0 x3_1 x4_1 (bt a0 x4_1) 1 0 x25_9 = some r) ∧ Aside0 (kq ≤ k1) ∧ Aside0 (Kd.R k75 75 wc w.heap.size (fun _ => True) u3 x3_1) ∧ Aside0 (Below w.heap.size w wc))
            case first =>
              have H := HC10.out
              clear HC10
              by_cases c11 : (bt a0 x4_1) = 32
              · rw [if_pos c11] at H
                have c11b0 : ((bt a0 x4_1) == 32) = true := beq_iff_eq.mpr c11
                have c11b1 : ((bt a0 x4_1) != 32) = false := bne_eq_false_iff_eq.mpr c11
                clear c11
                (first | rw [c11b0] | (simp only [i64_w, i32_w]; rw [c11b0]) | skip)
                have H' := Aside0.mk H
                clear H
                go_wp2
                go_meet
                case rel => exact ⟨_, (true), (by first | rfl | (simp; done) | (simp [*]; done)), H', ⟨by have := HK1.out; first | omega | exact Nat.le_refl _⟩, ⟨by (with_reducible repeat (first | apply Kd.R_alloc | apply Kd.R_drewN | apply Kd.R_drew)); exact HO_3.out⟩, ⟨by repeat (first | (with_reducible first | exact HB.out | apply below_alloc | apply pw_below_drewN | apply below_drew1) | exact HB.out)⟩⟩
              · rw [if_neg c11] at H
                have c11b0 : ((bt a0 x4_1) == 32) = false := beq_eq_false_iff_ne.mpr c11
                have c11b1 : ((bt a0 x4_1) != 32) = true := bne_iff_ne.mpr c11
                (first | rw [c11b0] | (simp only [i64_w, i32_w]; rw [c11b0]) | skip)
                have H' := Aside0.mk H
                clear H
                go_wp2
                go_meet
                case rel => exact ⟨_, (((bt a0 x4_1) == 10)), (by first | rfl | (simp; done) | (simp [*]; done)), H', ⟨by have := HK1.out; first | omega | exact Nat.le_refl _⟩, ⟨by (with_reducible repeat (first | apply Kd.R_alloc | apply Kd.R_drewN | apply Kd.R_drew)); exact HO_3.out⟩, ⟨by repeat (first | (with_reducible first | exact HB.out | apply below_alloc | apply pw_below_drewN | apply below_drew1) | exact HB.out)⟩⟩
            case rest =>
              clear HC10
              try clear c1
              try clear c2
              try clear c2b0
              try clear c2b1
              try clear p2
              try clear c7
              try clear c7b0
              try clear c8
              try clear c8b0
              try clear p9
              try clear q9
              try clear hx9
              try clear c11
              try clear c11b0
              try clear c11b1
              try clear p2
              try clear p9
              try clear q9
              obtain ⟨kq, x25_9, rfl, HA, HJ9, HO_3, HB⟩ := hcut
              cases kq with
              | zero => exact absurd HA.out (by simp [spec_Tokens.j1])
              | succ kj9 =>
                have H := HA.out
                clear HA
                simp only [spec_Tokens.j1] at H
                by_cases c12 : x25_9 = true
                · subst c12
                  have H1 : (if (-1) ≥ 0 then (if 0 ≤ x4_1 then (if x4_1 ≤ (wrap64 (x4_1 + 1)) then (if (wrap64 (x4_1 + 1)) ≤ (a0.size : Int) then (if x3_1.length < 4398046511104 then (spec_Tokens.l0 kj9 a0 (x3_1 ++ [(⟨(-1), a0.extract (x4_1 : Int).toNat ((wrap64 (x4_1 + 1)) : Int).toNat, x4_1⟩ : S75)]) (wrap64 (x4_1 + 1))) else (none)) else (none)) else (none)) else (none)) else (spec_Tokens.l0 kj9 a0 x3_1 (wrap64 (x4_1 + 1)))) = some r := by rw [if_pos rfl] at H; exact H
                  clear H
                  have H := H1
                  clear H1
                  by_cases c13 : (-1) ≥ 0
                  · exact absurd c13 (by decide)
                  · rw [if_neg c13] at H
                    have c13b0 : decide (0 ≤ (-1)) = false := decide_eq_false c13
                    clear c13
                    have H' := Aside0.mk H
                    clear H
                    go_wp2
                    go_roundg kj9
                    case measure => have := HK1.out; have := HJ9.out; omega
                    case rel => exact ⟨(x3_1), (wrap64 (x4_1 + 1)), (by first | rfl | (simp; done) | (simp [*]; done)), H', ⟨by have := HK1.out; have := HJ9.out; omega⟩, ⟨by (with_reducible repeat (first | apply Kd.R_alloc | apply Kd.R_drewN | apply Kd.R_drew)); exact HO_3.out⟩, ⟨by repeat (first | (with_reducible first | exact HB.out | apply below_alloc | apply pw_below_drewN | apply below_drew1) | exact HB.out)⟩⟩
                · replace c12 := Bool.eq_false_iff.mpr c12
                  subst c12
                  have H1 : (if (bt a0 x4_1) = 35 then (spec_Tokens.l1 kj9 a0 x3_1 x4_1 1 (-1)) else (if (bt a0 x4_1) ≥ 97 then (spec_Tokens.j3 kj9 a0 x3_1 x4_1 (bt a0 x4_1) 1 0 (decide ((bt a0 x4_1) ≤ 122))) else (spec_Tokens.j3 kj9 a0 x3_1 x4_1 (bt a0 x4_1) 1 0 false))) = some r := by rw [if_neg (show ¬ (false = true) by decide)] at H; exact H
                  clear H
                  have H := H1
                  clear H1
                  by_cases c19 : (bt a0 x4_1) = 35
                  · rw [if_pos c19] at H
                    have c19b0 : ((bt a0 x4_1) == 35) = true := beq_iff_eq.mpr c19
                    have c19b1 : ((bt a0 x4_1) != 35) = false := bne_eq_false_iff_eq.mpr c19
                    clear c19
                    have H' := Aside0.mk H
                    clear H
                    go_wp2
                    go_loopg [6] kj9 (fun kq v6 w' => ∃ (x6_3 : Int), v6 = .int .i64 x6_3 ∧ Aside0 (spec_Tokens.l1 kq a0 x3_1 x4_1 x6_3 (-1) = some r) ∧ Aside0 (kq ≤ kj9) ∧ Aside0 (Kd.R k75 75 w' w.heap.size (fun _ => True) u3 x3_1) ∧ Aside0 (Below w.heap.size w w'))
                    case atStart => exact ⟨(1), (by first | rfl | (simp; done) | (simp [*]; done)), H', ⟨Nat.le_refl _⟩, ⟨by (with_reducible repeat (first | apply Kd.R_alloc | apply Kd.R_drewN | apply Kd.R_drew)); exact HO_3.out⟩, ⟨by repeat (first | (with_reducible first | exact HB.out | apply below_alloc | apply pw_below_drewN | apply below_drew1) | exact HB.out)⟩⟩
                    case round =>
                      clear H'
                      try clear c1
                      try clear c2
                      try clear c2b0
                      try clear c2b1
                      try clear p2
                      try clear p6
                      try clear c7
                      try clear c7b0
                      try clear c8
                      try clear c8b0
                      try clear p9
                      try clear q9
                      try clear hx9
                      try clear c11
                      try clear c11b0
                      try clear c11b1
                      try clear c12
                      try clear c13
                      try clear c13b0
                      try clear c14
                      try clear c14b0
                      try clear c14b1
                      try clear c15
                      try clear c15b0
                      try clear c15b1
                      try clear c16
                      try clear c16b0
                      try clear c16b1
                      try clear c17
                      try clear c19
                      try clear c19b0
                      try clear c19b1
                      try clear p2
                      try clear p9
                      try clear q9
                      obtain ⟨x6_3, rfl, HA, HK3, HO_3, HB⟩ := hrel
                      cases gk with
                      | zero => exact absurd HA.out (by simp [spec_Tokens.l1])
                      | succ k3 =>
                        have H := HA.out
                        clear HA
                        simp only [spec_Tokens.l1] at H
                        by_cases c20 : (wrap64 (x4_1 + x6_3)) < (a0.size : Int)
                        · rw [if_pos c20] at H
                          have c20b0 : decide ((wrap64 (x4_1 + x6_3)) < (a0.size : Int)) = true := decide_eq_true c20
                          clear c20
                          obtain ⟨ji21, hji21⟩ : ∃ j_ : Int, (wrap64 (x4_1 + x6_3)) = j_ := ⟨_, rfl⟩
                          replace H : (if 0 ≤ (ji21) then (if (bt a0 (ji21)) = 10 then (if (-1) ≥ 0 then (if 0 ≤ x4_1 then (if x4_1 ≤ (ji21) then (if (ji21) ≤ (a0.size : Int) then (if x3_1.length < 4398046511104 then (spec_Tokens.l0 k3 a0 (x3_1 ++ [(⟨(-1), a0.extract (x4_1 : Int).toNat ((ji21) : Int).toNat, x4_1⟩ : S75)]) ji21) else (none)) else (none)) else (none)) else (none)) else (spec_Tokens.l0 k3 a0 x3_1 ji21)) else (spec_Tokens.l1 k3 a0 x3_1 x4_1 (wrap64 (x6_3 + 1)) (-1))) else (none)) = some r := by first | (rw [hji21] at H; exact H) | (simp only [hji21] at H ⊢; exact H)
                          (try rw [hji21] at c20b0)
                          have hji21w : (IntKind.i64.wrap (x4_1 + x6_3)) = ji21 := (i64_w _).trans hji21
                          by_cases c22 : 0 ≤ (ji21)
                          · rw [if_pos c22] at H
                            have c22b0 : decide (0 ≤ (ji21)) = true := decide_eq_true c22
                            clear c22
                            by_cases c24 : (bt a0 (ji21)) = 10
                            · rw [if_pos c24] at H
                              have c24b0 : ((bt a0 (ji21)) == 10) = true := beq_iff_eq.mpr c24
                              have c24b1 : ((bt a0 (ji21)) != 10) = false := bne_eq_false_iff_eq.mpr c24
                              clear c24
                              by_cases c25 : (-1) ≥ 0
                              · exact absurd c25 (by decide)
                              · rw [if_neg c25] at H
                                have c25b0 : decide (0 ≤ (-1)) = false := decide_eq_false c25
                                clear c25
                                have H' := Aside0.mk H
                                clear H
                                have p23 : 0 ≤ ((ji21) : Int) := of_decide_eq_true (by first | (with_reducible assumption) | assumption)
                                have q23 : (ji21) < (a0.size : Int) := of_decide_eq_true (by first | (with_reducible assumption) | assumption)
                                have hx23 := bt_at a0 (ji21)
                                replace p23 := eq_true p23
                                replace q23 := eq_true q23
                                go_wp2
                                go_roundg k3
                                case measure => have := HK1.out; have := HJ9.out; have := HK3.out; omega
                                case rel => exact ⟨(x3_1), (ji21), (by first | rfl | (simp; done) | (simp only [← hji21] <;> (first | rfl | simp)) | (simp [*]; done)), H', ⟨by have := HK1.out; have := HJ9.out; have := HK3.out; omega⟩, ⟨by (with_reducible repeat (first | apply Kd.R_alloc | apply Kd.R_drewN | apply Kd.R_drew)); exact HO_3.out⟩, ⟨by repeat (first | (with_reducible first | exact HB.out | apply below_alloc | apply pw_below_drewN | apply below_drew1) | exact HB.out)⟩⟩
                            · rw [if_neg c24] at H
                              have c24b0 : ((bt a0 (ji21)) == 10) = false := beq_eq_false_iff_ne.mpr c24
                              have c24b1 : ((bt a0 (ji21)) != 10) = true := bne_iff_ne.mpr c24
                              have H' := Aside0.mk H
                              clear H
                              have p23 : 0 ≤ ((ji21) : Int) := of_decide_eq_true (by first | (with_reducible assumption) | assumption)
                              have q23 : (ji21) < (a0.size : Int) := of_decide_eq_true (by first | (with_reducible assumption) | assumption)
                              have hx23 := bt_at a0 (ji21)
                              replace p23 := eq_true p23
                              replace q23 := eq_true q23
                              go_wp2
                              go_roundg k3
                              case measure => have := HK1.out; have := HJ9.out; have := HK3.out; omega
                              case rel => exact ⟨(wrap64 (x6_3 + 1)), (by first | rfl | (simp; done) | (simp [*]; done)), H', ⟨by have := HK1.out; have := HJ9.out; have := HK3.out; omega⟩, ⟨by (with_reducible repeat (first | apply Kd.R_alloc | apply Kd.R_drewN | apply Kd.R_drew)); exact HO_3.out⟩, ⟨by repeat (first | (with_reducible first | exact HB.out | apply below_alloc | apply pw_below_drewN | apply below_drew1) | exact HB.out)⟩⟩
                          · rw [if_neg c22] at H
                            exact absurd H (by simp)
                        · rw [if_neg c20] at H
                          have c20b0 : decide ((wrap64 (x4_1 + x6_3)) < (a0.size : Int)) = false := decide_eq_false c20
                          clear c20
                          by_cases c31 : (-1) ≥ 0
                          · exact absurd c31 (by decide)
                          · rw [if_neg c31] at H
                            have c31b0 : decide (0 ≤ (-1)) = false := decide_eq_false c31
                            clear c31
                            have H' := Aside0.mk H
                            clear H
                            go_wp2
                            go_roundg k3
                            case measure => have := HK1.out; have := HJ9.out; have := HK3.out; omega
                            case rel => exact ⟨(x3_1), (wrap64 (x4_1 + x6_3)), (by first | rfl | (simp; done) | (simp [*]; done)), H', ⟨by have := HK1.out; have := HJ9.out; have := HK3.out; omega⟩, ⟨by (with_reducible repeat (first | apply Kd.R_alloc | apply Kd.R_drewN | apply Kd.R_drew)); exact HO_3.out⟩, ⟨by repeat (first | (with_reducible first | exact HB.out | apply below_alloc | apply pw_below_drewN | apply below_drew1) | exact HB.out)⟩⟩
                  · rw [if_neg c19] at H
                    have c19b0 : ((bt a0 x4_1) == 35) = false := beq_eq_false_iff_ne.mpr c19
                    have c19b1 : ((bt a0 x4_1) != 35) = true := bne_iff_ne.mpr c19
                    have HC37 := Aside0.mk H
                    clear H
                    go_upto_region 15 with (fail)
                    go_cut [49] (fun v49 wc => ∃ (kq : Nat) (x49_36 : Bool), v49 = .bool x49_36 ∧ Aside0 (spec_Tokens.j3 kq a0 x3_1 x4_1 (bt a0 x4_1) 1 0 x49_36 = some r) ∧ Aside0 (kq ≤ kj9) ∧ Aside0 (Kd.R k75 75 wc w.heap.size (fun _ => True) u3 x3_1) ∧ Aside0 (Below w.heap.size w wc))
                    case first =>
                      have H := HC37.out
                      clear HC37
                      by_cases c38 : (bt a0 x4_1) ≥ 97
                      · rw [if_pos c38] at H
                        have c38b0 : decide (97 ≤ (bt a0 x4_1)) = true := decide_eq_true c38
                        clear c38
                        (first | rw [c38b0] | (simp only [i64_w, i32_w]; rw [c38b0]) | skip)
                        have H' := Aside0.mk H
                        clear H
                        go_wp2
                        go_meet
                        case rel => exact ⟨_, (decide ((bt a0 x4_1) ≤ 122)), (by first | rfl | (simp; done) | (simp [*]; done)), H', ⟨by have := HK1.out; have := HJ9.out; first | omega | exact Nat.le_refl _⟩, ⟨by (with_reducible repeat (first | apply Kd.R_alloc | apply Kd.R_drewN | apply Kd.R_drew)); exact HO_3.out⟩, ⟨by repeat (first | (with_reducible first | exact HB.out | apply below_alloc | apply pw_below_drewN | apply below_drew1) | exact HB.out)⟩⟩
                      · rw [if_neg c38] at H
                        have c38b0 : decide (97 ≤ (bt a0 x4_1)) = false := decide_eq_false c38
                        clear c38
                        (first | rw [c38b0] | (simp only [i64_w, i32_w]; rw [c38b0]) | skip)
                        have H' := Aside0.mk H
                        clear H
                        go_wp2
                        go_meet
                        case rel => exact ⟨_, (false), (by first | rfl | (simp; done) | (simp [*]; done)), H', ⟨by have := HK1.out; have := HJ9.out; first | omega | exact Nat.le_refl _⟩, ⟨by (with_reducible repeat (first | apply Kd.R_alloc | apply Kd.R_drewN | apply Kd.R_drew)); exact HO_3.out⟩, ⟨by repeat (first | (with_reducible first | exact HB.out | apply below_alloc | apply pw_below_drewN | apply below_drew1) | exact HB.out)⟩⟩
                    case rest =>
                      clear HC37
                      try clear c1
                      try clear c2
                      try clear c2b0
                      try clear c2b1
                      try clear p2
                      try clear q2
                      try clear hx2
                      try clear c3
                      try clear p6
                      try clear c7
                      try clear c7b0
                      try clear c8
                      try clear c8b0
                      try clear p9
                      try clear q9
                      try clear hx9
                      try clear c11
                      try clear c11b0
                      try clear c11b1
                      try clear c12
                      try clear c13
                      try clear c13b0
                      try clear c14
                      try clear c14b0
                      try clear c14b1
                      try clear c15
                      try clear c15b0
                      try clear c15b1
                      try clear c16
                      try clear c16b0
                      try clear c16b1
                      try clear c17
                      try clear c19
                      try clear c19b0
                      try clear c19b1
                      try clear c20
                      try clear c20b0
                      try clear c22
                      try clear c22b0
                      try clear p23
                      try clear q23
                      try clear hx23
                      try clear c24
                      try clear c24b0
                      try clear c24b1
                      try clear c25
                      try clear c25b0
                      try clear c26
                      try clear c26b0
                      try clear c26b1
                      try clear c27
                      try clear c27b0
                      try clear c27b1
                      try clear c28
                      try clear c28b0
                      try clear c28b1
                      try clear c29
                      try clear c31
                      try clear c31b0
                      try clear c32
                      try clear c32b0
                      try clear c32b1
                      try clear c33
                      try clear c33b0
                      try clear c33b1
                      try clear c34
                      try clear c34b0
                      try clear c34b1
                      try clear c35
                      try clear c38
                      try clear c38b0
                      try clear p2
                      try clear p23
                      try clear p6
                      try clear p9
                      try clear q23
                      try clear q9
                      obtain ⟨kq, x49_36, rfl, HA, HJ36, HO_3, HB⟩ := hcut
                      cases kq with
                      | zero => exact absurd HA.out (by simp [spec_Tokens.j3])
                      | succ kj36 =>
                        have H := HA.out
                        clear HA
                        simp only [spec_Tokens.j3] at H
                        by_cases c39 : x49_36 = true
                        · subst c39
                          have H1 : ((spec_l2Run.f kj36 a0 x4_1 false).bind fun t246 => (if 0 ≤ x4_1 then (if x4_1 ≤ (wrap64 (x4_1 + t246)) then (if (wrap64 (x4_1 + t246)) ≤ (a0.size : Int) then ((spec_l2Class.f kj36 (a0.extract (x4_1 : Int).toNat ((wrap64 (x4_1 + t246)) : Int).toNat)).bind fun t247 => (if t247 ≥ 0 then (if x3_1.length < 4398046511104 then (spec_Tokens.l0 kj36 a0 (x3_1 ++ [(⟨t247, a0.extract (x4_1 : Int).toNat ((wrap64 (x4_1 + t246)) : Int).toNat, x4_1⟩ : S75)]) (wrap64 (x4_1 + t246))) else (none)) else (spec_Tokens.l0 kj36 a0 x3_1 (wrap64 (x4_1 + t246))))) else (none)) else (none)) else (none))) = some r := by rw [if_pos rfl] at H; exact H
                          clear H
                          have H := H1
                          clear H1
                          replace H := Option.bind_eq_some_iff.mp H
                          obtain ⟨t246, A400, H⟩ := H
                          replace H : (if 0 ≤ x4_1 then (if x4_1 ≤ (wrap64 (x4_1 + t246)) then (if (wrap64 (x4_1 + t246)) ≤ (a0.size : Int) then ((spec_l2Class.f kj36 (a0.extract (x4_1 : Int).toNat ((wrap64 (x4_1 + t246)) : Int).toNat)).bind fun t247 => (if t247 ≥ 0 then (if x3_1.length < 4398046511104 then (spec_Tokens.l0 kj36 a0 (x3_1 ++ [(⟨t247, a0.extract (x4_1 : Int).toNat ((wrap64 (x4_1 + t246)) : Int).toNat, x4_1⟩ : S75)]) (wrap64 (x4_1 + t246))) else (none)) else (spec_Tokens.l0 kj36 a0 x3_1 (wrap64 (x4_1 + t246))))) else (none)) else (none)) else (none)) = some r := H
                          have A40 := Aside0.mk A400
                          clear A400
                          by_cases c41 : 0 ≤ x4_1
                          · rw [if_pos c41] at H
                            have c41b0 := eq_true c41
                            have c41b1 : decide (0 ≤ x4_1) = true := decide_eq_true c41
                            clear c41
                            by_cases c42 : x4_1 ≤ (wrap64 (x4_1 + t246))
                            · rw [if_pos c42] at H
                              have c42b0 := eq_true c42
                              have c42b1 : decide (x4_1 ≤ (wrap64 (x4_1 + t246))) = true := decide_eq_true c42
                              by_cases c43 : (wrap64 (x4_1 + t246)) ≤ (a0.size : Int)
                              · rw [if_pos c43] at H
                                have c43b0 := eq_true c43
                                have c43b1 : decide ((wrap64 (x4_1 + t246)) ≤ (a0.size : Int)) = true := decide_eq_true c43
                                replace H := Option.bind_eq_some_iff.mp H
                                obtain ⟨t247, A440, H⟩ := H
                                replace H : (if t247 ≥ 0 then (if x3_1.length < 4398046511104 then (spec_Tokens.l0 kj36 a0 (x3_1 ++ [(⟨t247, a0.extract (x4_1 : Int).toNat ((wrap64 (x4_1 + t246)) : Int).toNat, x4_1⟩ : S75)]) (wrap64 (x4_1 + t246))) else (none)) else (spec_Tokens.l0 kj36 a0 x3_1 (wrap64 (x4_1 + t246)))) = some r := H
                                have A44 := Aside0.mk A440
                                clear A440
                                by_cases c45 : t247 ≥ 0
                                · rw [if_pos c45] at H
                                  have c45b0 : decide (0 ≤ t247) = true := decide_eq_true c45
                                  clear c45
                                  have c46b0 := eq_true (of_decide_eq_true (by first | (with_reducible assumption) | assumption) : 0 ≤ x4_1)
                                  have c47b0 := eq_true (of_decide_eq_true (by first | (with_reducible assumption) | assumption) : x4_1 ≤ (wrap64 (x4_1 + t246)))
                                  have c48b0 := eq_true (of_decide_eq_true (by first | (with_reducible assumption) | assumption) : (wrap64 (x4_1 + t246)) ≤ (a0.size : Int))
                                  by_cases c49 : x3_1.length < 4398046511104
                                  · rw [if_pos c49] at H
                                    have LMc49 := Aside0.mk c49
                                    clear c49
                                    obtain ⟨y248, hy248⟩ : ∃ y_ : List (S75), y_ = (x3_1 ++ [(⟨t247, a0.extract (x4_1 : Int).toNat ((wrap64 (x4_1 + t246)) : Int).toNat, x4_1⟩ : S75)]) := ⟨_, rfl⟩
                                    replace H : (spec_Tokens.l0 kj36 a0 y248 (wrap64 (x4_1 + t246))) = some r := by first | (rw [hy248]; with_reducible exact H) | (have H2_ := (Option.bind_some _ _).symm.trans H; rw [hy248]; with_reducible exact H2_) | (have H2_ := (Option.bind_some _ _).symm.trans H; with_reducible exact H2_) | with_reducible exact H | (rw [hy248]; exact H) | exact H
                                    have Ny248 := Aside0.mk hy248
                                    clear hy248
                                    have H' := Aside0.mk H
                                    clear H
                                    go_wp2_with (first | ((with_reducible refine gate_callee (f := 36) rfl ?_); refine goesL_ (some 52) rfl rfl Tryd.func36 (by kernel_rfl) rfl #[.string a0, .int .i64 x4_1, .bool false] rfl (by (try simp only [List.map_toArray, List.map_cons, List.map_nil]); first | done | rfl | (simp only [List.length_drop, List.length_take]; rfl)) ?_; (with_reducible refine (spec_l2Run.calls kj36 a0 x4_1 false t246 _ A40.out).mono ?_); rintro e w' ⟨rfl, ⟨nd, rfl⟩⟩; refine ⟨_, rfl, ?_⟩) | ((with_reducible refine gate_callee (f := 37) rfl ?_); refine goesL_ (some 59) rfl rfl Tryd.func37 (by kernel_rfl) rfl #[.string (a0.extract (x4_1 : Int).toNat ((wrap64 (x4_1 + t246)) : Int).toNat)] rfl (by (try simp only [List.map_toArray, List.map_cons, List.map_nil]); first | done | rfl | (simp only [List.length_drop, List.length_take]; rfl)) ?_; (with_reducible refine (spec_l2Class.calls kj36 (a0.extract (x4_1 : Int).toNat ((wrap64 (x4_1 + t246)) : Int).toNat) t247 _ A44.out).mono ?_); rintro e w' ⟨rfl, ⟨nd, rfl⟩⟩; refine ⟨_, rfl, ?_⟩) | ((with_reducible refine gate_builtin (b := .append) (xs := #[.tmp 93, .tmp 103]) rfl ?_); at_builtin; refine Kd.R_append k75 (w0 := w) w.heap.size rfl (.tmp 93) (.tmp 103) 40 75 (.agg #[(.int .i64 0), (.string ⟨#[]⟩), (.int .i64 0)]) 32 rfl Tryd.underlying40 info75 rfl (by decide) (by omega) u3 x3_1 (⟨t247, a0.extract (x4_1 : Int).toNat ((wrap64 (x4_1 + t246)) : Int).toNat, x4_1⟩ : S75) [.int .i64 t247, .string (a0.extract (x4_1 : Int).toNat ((wrap64 (x4_1 + t246)) : Int).toNat), .int .i64 x4_1] (fun _ => True) (fun _ => False) rfl rfl ?aP (fun _ hk => hk.elim) ?aF ?aO ?aB ?aS ?aL ?_; (case aP => exact k75_mkM _ _ _ (⟨t247, a0.extract (x4_1 : Int).toNat ((wrap64 (x4_1 + t246)) : Int).toNat, x4_1⟩ : S75)); (case aB => exact (by repeat (first | (with_reducible first | exact HB.out | apply below_alloc | apply pw_below_drewN | apply below_drew1) | exact HB.out))); (case aF => exact (fun _ _ => trivial)); (case aO => exact (by (with_reducible repeat (first | apply Kd.R_alloc | apply Kd.R_drewN | apply Kd.R_drew)); exact HO_3.out)); (case aS => exact (below_size (by repeat (first | (with_reducible first | exact HB.out | apply below_alloc | apply pw_below_drewN | apply below_drew1) | exact HB.out)))); (case aL => have := LMc49.out; omega); intro v249 w50 ho hb hg hat; rw [← Ny248.out] at ho; have n0_ := Aside0.mk (hb); have n1_ := Aside0.mk (ho); clear HB; clear HO_3; have HB := n0_; have HO250 := n1_; clear n0_ n1_; clear ho hb hg hat))
                                    go_roundg kj36
                                    case measure => have := HK1.out; have := HJ9.out; have := HJ36.out; omega
                                    case rel => exact ⟨(y248), (wrap64 (x4_1 + t246)), (by first | rfl | (simp; done) | (simp [*]; done)), H', ⟨by have := HK1.out; have := HJ9.out; have := HJ36.out; omega⟩, ⟨by (with_reducible repeat (first | apply Kd.R_alloc | apply Kd.R_drewN | apply Kd.R_drew)); exact HO250.out⟩, ⟨by repeat (first | (with_reducible first | exact HB.out | apply below_alloc | apply pw_below_drewN | apply below_drew1) | exact HB.out)⟩⟩
                                  · rw [if_neg c49] at H
                                    exact absurd H (by simp)
                                · rw [if_neg c45] at H
                                  have c45b0 : decide (0 ≤ t247) = false := decide_eq_false c45
                                  clear c45
                                  have H' := Aside0.mk H
                                  clear H
                                  go_wp2_with (first | ((with_reducible refine gate_callee (f := 36) rfl ?_); refine goesL_ (some 52) rfl rfl Tryd.func36 (by kernel_rfl) rfl #[.string a0, .int .i64 x4_1, .bool false] rfl (by (try simp only [List.map_toArray, List.map_cons, List.map_nil]); first | done | rfl | (simp only [List.length_drop, List.length_take]; rfl)) ?_; (with_reducible refine (spec_l2Run.calls kj36 a0 x4_1 false t246 _ A40.out).mono ?_); rintro e w' ⟨rfl, ⟨nd, rfl⟩⟩; refine ⟨_, rfl, ?_⟩) | ((with_reducible refine gate_callee (f := 37) rfl ?_); refine goesL_ (some 59) rfl rfl Tryd.func37 (by kernel_rfl) rfl #[.string (a0.extract (x4_1 : Int).toNat ((wrap64 (x4_1 + t246)) : Int).toNat)] rfl (by (try simp only [List.map_toArray, List.map_cons, List.map_nil]); first | done | rfl | (simp only [List.length_drop, List.length_take]; rfl)) ?_; (with_reducible refine (spec_l2Class.calls kj36 (a0.extract (x4_1 : Int).toNat ((wrap64 (x4_1 + t246)) : Int).toNat) t247 _ A44.out).mono ?_); rintro e w' ⟨rfl, ⟨nd, rfl⟩⟩; refine ⟨_, rfl, ?_⟩))
                                  go_roundg kj36
                                  case measure => have := HK1.out; have := HJ9.out; have := HJ36.out; omega
                                  case rel => exact ⟨(x3_1), (wrap64 (x4_1 + t246)), (by first | rfl | (simp; done) | (simp [*]; done)), H', ⟨by have := HK1.out; have := HJ9.out; have := HJ36.out; omega⟩, ⟨by (with_reducible repeat (first | apply Kd.R_alloc | apply Kd.R_drewN | apply Kd.R_drew)); exact HO_3.out⟩, ⟨by repeat (first | (with_reducible first | exact HB.out | apply below_alloc | apply pw_below_drewN | apply below_drew1) | exact HB.out)⟩⟩
                              · rw [if_neg c43] at H
                                exact absurd H (by simp)
                            · rw [if_neg c42] at H
                              exact absurd H (by simp)
                          · rw [if_neg c41] at H
                            exact absurd H (by simp)
                        · replace c39 := Bool.eq_false_iff.mpr c39
                          subst c39
                          have H1 : (if (bt a0 x4_1) ≥ 48 then (spec_Tokens.j4 kj36 a0 x3_1 x4_1 (bt a0 x4_1) 1 0 (decide ((bt a0 x4_1) ≤ 57))) else (spec_Tokens.j4 kj36 a0 x3_1 x4_1 (bt a0 x4_1) 1 0 false)) = some r := by rw [if_neg (show ¬ (false = true) by decide)] at H; exact H
                          clear H
                          have H := H1
                          clear H1
                          have HC51 := Aside0.mk H
                          clear H
                          go_upto_region 18 with (fail)
                          go_cut [65] (fun v65 wc => ∃ (kq : Nat) (x65_50 : Bool), v65 = .bool x65_50 ∧ Aside0 (spec_Tokens.j4 kq a0 x3_1 x4_1 (bt a0 x4_1) 1 0 x65_50 = some r) ∧ Aside0 (kq ≤ kj36) ∧ Aside0 (Kd.R k75 75 wc w.heap.size (fun _ => True) u3 x3_1) ∧ Aside0 (Below w.heap.size w wc))
                          case first =>
                            have H := HC51.out
                            clear HC51
                            by_cases c52 : (bt a0 x4_1) ≥ 48
                            · rw [if_pos c52] at H
                              have c52b0 : decide (48 ≤ (bt a0 x4_1)) = true := decide_eq_true c52
                              clear c52
                              (first | rw [c52b0] | (simp only [i64_w, i32_w]; rw [c52b0]) | skip)
                              have H' := Aside0.mk H
                              clear H
                              go_wp2
                              go_meet
                              case rel => exact ⟨_, (decide ((bt a0 x4_1) ≤ 57)), (by first | rfl | (simp; done) | (simp [*]; done)), H', ⟨by have := HK1.out; have := HJ9.out; have := HJ36.out; first | omega | exact Nat.le_refl _⟩, ⟨by (with_reducible repeat (first | apply Kd.R_alloc | apply Kd.R_drewN | apply Kd.R_drew)); exact HO_3.out⟩, ⟨by repeat (first | (with_reducible first | exact HB.out | apply below_alloc | apply pw_below_drewN | apply below_drew1) | exact HB.out)⟩⟩
                            · rw [if_neg c52] at H
                              have c52b0 : decide (48 ≤ (bt a0 x4_1)) = false := decide_eq_false c52
                              clear c52
                              (first | rw [c52b0] | (simp only [i64_w, i32_w]; rw [c52b0]) | skip)
                              have H' := Aside0.mk H
                              clear H
                              go_wp2
                              go_meet
                              case rel => exact ⟨_, (false), (by first | rfl | (simp; done) | (simp [*]; done)), H', ⟨by have := HK1.out; have := HJ9.out; have := HJ36.out; first | omega | exact Nat.le_refl _⟩, ⟨by (with_reducible repeat (first | apply Kd.R_alloc | apply Kd.R_drewN | apply Kd.R_drew)); exact HO_3.out⟩, ⟨by repeat (first | (with_reducible first | exact HB.out | apply below_alloc | apply pw_below_drewN | apply below_drew1) | exact HB.out)⟩⟩
                          case rest =>
                            clear HC51
                            try clear c1
                            try clear c2
                            try clear c2b0
                            try clear c2b1
                            try clear p2
                            try clear q2
                            try clear hx2
                            try clear c3
                            try clear c4
                            try clear c5
                            try clear p6
                            try clear c7
                            try clear c7b0
                            try clear c8
                            try clear c8b0
                            try clear p9
                            try clear q9
                            try clear hx9
                            try clear c11
                            try clear c11b0
                            try clear c11b1
                            try clear c12
                            try clear c13
                            try clear c13b0
                            try clear c14
                            try clear c14b0
                            try clear c14b1
                            try clear c15
                            try clear c15b0
                            try clear c15b1
                            try clear c16
                            try clear c16b0
                            try clear c16b1
                            try clear c17
                            try clear c19
                            try clear c19b0
                            try clear c19b1
                            try clear c20
                            try clear c20b0
                            try clear c22
                            try clear c22b0
                            try clear p23
                            try clear q23
                            try clear hx23
                            try clear c24
                            try clear c24b0
                            try clear c24b1
                            try clear c25
                            try clear c25b0
                            try clear c26
                            try clear c26b0
                            try clear c26b1
                            try clear c27
                            try clear c27b0
                            try clear c27b1
                            try clear c28
                            try clear c28b0
                            try clear c28b1
                            try clear c29
                            try clear c31
                            try clear c31b0
                            try clear c32
                            try clear c32b0
                            try clear c32b1
                            try clear c33
                            try clear c33b0
                            try clear c33b1
                            try clear c34
                            try clear c34b0
                            try clear c34b1
                            try clear c35
                            try clear c36
                            try clear c37
                            try clear c38
                            try clear c38b0
                            try clear c39
                            try clear c41
                            try clear c41b0
                            try clear c41b1
                            try clear c42
                            try clear c42b0
                            try clear c42b1
                            try clear c43
                            try clear c43b0
                            try clear c43b1
                            try clear c45
                            try clear c45b0
                            try clear c46
                            try clear c46b0
                            try clear c47
                            try clear c47b0
                            try clear c48
                            try clear c48b0
                            try clear c49
                            try clear c52
                            try clear c52b0
                            try clear p2
                            try clear p23
                            try clear p6
                            try clear p9
                            try clear q2
                            try clear q23
                            try clear q9
                            obtain ⟨kq, x65_50, rfl, HA, HJ50, HO_3, HB⟩ := hcut
                            cases kq with
                            | zero => exact absurd HA.out (by simp [spec_Tokens.j4])
                            | succ kj50 =>
                              have H := HA.out
                              clear HA
                              simp only [spec_Tokens.j4] at H
                              by_cases c53 : x65_50 = true
                              · subst c53
                                have H1 : ((spec_l2Run.f kj50 a0 x4_1 true).bind fun t251 => (if 0 ≤ x4_1 then (if x4_1 ≤ (wrap64 (x4_1 + t251)) then (if (wrap64 (x4_1 + t251)) ≤ (a0.size : Int) then ((spec_l2Class.f kj50 (a0.extract (x4_1 : Int).toNat ((wrap64 (x4_1 + t251)) : Int).toNat)).bind fun t252 => (if t252 ≥ 0 then (if x3_1.length < 4398046511104 then (spec_Tokens.l0 kj50 a0 (x3_1 ++ [(⟨t252, a0.extract (x4_1 : Int).toNat ((wrap64 (x4_1 + t251)) : Int).toNat, x4_1⟩ : S75)]) (wrap64 (x4_1 + t251))) else (none)) else (spec_Tokens.l0 kj50 a0 x3_1 (wrap64 (x4_1 + t251))))) else (none)) else (none)) else (none))) = some r := by rw [if_pos rfl] at H; exact H
                                clear H
                                have H := H1
                                clear H1
                                replace H := Option.bind_eq_some_iff.mp H
                                obtain ⟨t251, A540, H⟩ := H
                                replace H : (if 0 ≤ x4_1 then (if x4_1 ≤ (wrap64 (x4_1 + t251)) then (if (wrap64 (x4_1 + t251)) ≤ (a0.size : Int) then ((spec_l2Class.f kj50 (a0.extract (x4_1 : Int).toNat ((wrap64 (x4_1 + t251)) : Int).toNat)).bind fun t252 => (if t252 ≥ 0 then (if x3_1.length < 4398046511104 then (spec_Tokens.l0 kj50 a0 (x3_1 ++ [(⟨t252, a0.extract (x4_1 : Int).toNat ((wrap64 (x4_1 + t251)) : Int).toNat, x4_1⟩ : S75)]) (wrap64 (x4_1 + t251))) else (none)) else (spec_Tokens.l0 kj50 a0 x3_1 (wrap64 (x4_1 + t251))))) else (none)) else (none)) else (none)) = some r := H
                                have A54 := Aside0.mk A540
                                clear A540
                                by_cases c55 : 0 ≤ x4_1
                                · rw [if_pos c55] at H
                                  have c55b0 := eq_true c55
                                  have c55b1 : decide (0 ≤ x4_1) = true := decide_eq_true c55
                                  clear c55
                                  by_cases c56 : x4_1 ≤ (wrap64 (x4_1 + t251))
                                  · rw [if_pos c56] at H
                                    have c56b0 := eq_true c56
                                    have c56b1 : decide (x4_1 ≤ (wrap64 (x4_1 + t251))) = true := decide_eq_true c56
                                    by_cases c57 : (wrap64 (x4_1 + t251)) ≤ (a0.size : Int)
                                    · rw [if_pos c57] at H
                                      have c57b0 := eq_true c57
                                      have c57b1 : decide ((wrap64 (x4_1 + t251)) ≤ (a0.size : Int)) = true := decide_eq_true c57
                                      replace H := Option.bind_eq_some_iff.mp H
                                      obtain ⟨t252, A580, H⟩ := H
                                      replace H : (if t252 ≥ 0 then (if x3_1.length < 4398046511104 then (spec_Tokens.l0 kj50 a0 (x3_1 ++ [(⟨t252, a0.extract (x4_1 : Int).toNat ((wrap64 (x4_1 + t251)) : Int).toNat, x4_1⟩ : S75)]) (wrap64 (x4_1 + t251))) else (none)) else (spec_Tokens.l0 kj50 a0 x3_1 (wrap64 (x4_1 + t251)))) = some r := H
                                      have A58 := Aside0.mk A580
                                      clear A580
                                      by_cases c59 : t252 ≥ 0
                                      · rw [if_pos c59] at H
                                        have c59b0 : decide (0 ≤ t252) = true := decide_eq_true c59
                                        clear c59
                                        have c60b0 := eq_true (of_decide_eq_true (by first | (with_reducible assumption) | assumption) : 0 ≤ x4_1)
                                        have c61b0 := eq_true (of_decide_eq_true (by first | (with_reducible assumption) | assumption) : x4_1 ≤ (wrap64 (x4_1 + t251)))
                                        have c62b0 := eq_true (of_decide_eq_true (by first | (with_reducible assumption) | assumption) : (wrap64 (x4_1 + t251)) ≤ (a0.size : Int))
                                        by_cases c63 : x3_1.length < 4398046511104
                                        · rw [if_pos c63] at H
                                          have LMc63 := Aside0.mk c63
                                          clear c63
                                          obtain ⟨y253, hy253⟩ : ∃ y_ : List (S75), y_ = (x3_1 ++ [(⟨t252, a0.extract (x4_1 : Int).toNat ((wrap64 (x4_1 + t251)) : Int).toNat, x4_1⟩ : S75)]) := ⟨_, rfl⟩
                                          replace H : (spec_Tokens.l0 kj50 a0 y253 (wrap64 (x4_1 + t251))) = some r := by first | (rw [hy253]; with_reducible exact H) | (have H2_ := (Option.bind_some _ _).symm.trans H; rw [hy253]; with_reducible exact H2_) | (have H2_ := (Option.bind_some _ _).symm.trans H; with_reducible exact H2_) | with_reducible exact H | (rw [hy253]; exact H) | exact H
                                          have Ny253 := Aside0.mk hy253
                                          clear hy253
                                          have H' := Aside0.mk H
                                          clear H
                                          go_wp2_with (first | ((with_reducible refine gate_callee (f := 36) rfl ?_); refine goesL_ (some 68) rfl rfl Tryd.func36 (by kernel_rfl) rfl #[.string a0, .int .i64 x4_1, .bool true] rfl (by (try simp only [List.map_toArray, List.map_cons, List.map_nil]); first | done | rfl | (simp only [List.length_drop, List.length_take]; rfl)) ?_; (with_reducible refine (spec_l2Run.calls kj50 a0 x4_1 true t251 _ A54.out).mono ?_); rintro e w' ⟨rfl, ⟨nd, rfl⟩⟩; refine ⟨_, rfl, ?_⟩) | ((with_reducible refine gate_callee (f := 37) rfl ?_); refine goesL_ (some 75) rfl rfl Tryd.func37 (by kernel_rfl) rfl #[.string (a0.extract (x4_1 : Int).toNat ((wrap64 (x4_1 + t251)) : Int).toNat)] rfl (by (try simp only [List.map_toArray, List.map_cons, List.map_nil]); first | done | rfl | (simp only [List.length_drop, List.length_take]; rfl)) ?_; (with_reducible refine (spec_l2Class.calls kj50 (a0.extract (x4_1 : Int).toNat ((wrap64 (x4_1 + t251)) : Int).toNat) t252 _ A58.out).mono ?_); rintro e w' ⟨rfl, ⟨nd, rfl⟩⟩; refine ⟨_, rfl, ?_⟩) | ((with_reducible refine gate_builtin (b := .append) (xs := #[.tmp 93, .tmp 103]) rfl ?_); at_builtin; refine Kd.R_append k75 (w0 := w) w.heap.size rfl (.tmp 93) (.tmp 103) 40 75 (.agg #[(.int .i64 0), (.string ⟨#[]⟩), (.int .i64 0)]) 32 rfl Tryd.underlying40 info75 rfl (by decide) (by omega) u3 x3_1 (⟨t252, a0.extract (x4_1 : Int).toNat ((wrap64 (x4_1 + t251)) : Int).toNat, x4_1⟩ : S75) [.int .i64 t252, .string (a0.extract (x4_1 : Int).toNat ((wrap64 (x4_1 + t251)) : Int).toNat), .int .i64 x4_1] (fun _ => True) (fun _ => False) rfl rfl ?aP (fun _ hk => hk.elim) ?aF ?aO ?aB ?aS ?aL ?_; (case aP => exact k75_mkM _ _ _ (⟨t252, a0.extract (x4_1 : Int).toNat ((wrap64 (x4_1 + t251)) : Int).toNat, x4_1⟩ : S75)); (case aB => exact (by repeat (first | (with_reducible first | exact HB.out | apply below_alloc | apply pw_below_drewN | apply below_drew1) | exact HB.out))); (case aF => exact (fun _ _ => trivial)); (case aO => exact (by (with_reducible repeat (first | apply Kd.R_alloc | apply Kd.R_drewN | apply Kd.R_drew)); exact HO_3.out)); (case aS => exact (below_size (by repeat (first | (with_reducible first | exact HB.out | apply below_alloc | apply pw_below_drewN | apply below_drew1) | exact HB.out)))); (case aL => have := LMc63.out; omega); intro v254 w64 ho hb hg hat; rw [← Ny253.out] at ho; have n0_ := Aside0.mk (hb); have n1_ := Aside0.mk (ho); clear HB; clear HO_3; have HB := n0_; have HO255 := n1_; clear n0_ n1_; clear ho hb hg hat))
                                          go_roundg kj50
                                          case measure => have := HK1.out; have := HJ9.out; have := HJ36.out; have := HJ50.out; omega
                                          case rel => exact ⟨(y253), (wrap64 (x4_1 + t251)), (by first | rfl | (simp; done) | (simp [*]; done)), H', ⟨by have := HK1.out; have := HJ9.out; have := HJ36.out; have := HJ50.out; omega⟩, ⟨by (with_reducible repeat (first | apply Kd.R_alloc | apply Kd.R_drewN | apply Kd.R_drew)); exact HO255.out⟩, ⟨by repeat (first | (with_reducible first | exact HB.out | apply below_alloc | apply pw_below_drewN | apply below_drew1) | exact HB.out)⟩⟩
                                        · rw [if_neg c63] at H
                                          exact absurd H (by simp)
                                      · rw [if_neg c59] at H
                                        have c59b0 : decide (0 ≤ t252) = false := decide_eq_false c59
                                        clear c59
                                        have H' := Aside0.mk H
                                        clear H
                                        go_wp2_with (first | ((with_reducible refine gate_callee (f := 36) rfl ?_); refine goesL_ (some 68) rfl rfl Tryd.func36 (by kernel_rfl) rfl #[.string a0, .int .i64 x4_1, .bool true] rfl (by (try simp only [List.map_toArray, List.map_cons, List.map_nil]); first | done | rfl | (simp only [List.length_drop, List.length_take]; rfl)) ?_; (with_reducible refine (spec_l2Run.calls kj50 a0 x4_1 true t251 _ A54.out).mono ?_); rintro e w' ⟨rfl, ⟨nd, rfl⟩⟩; refine ⟨_, rfl, ?_⟩) | ((with_reducible refine gate_callee (f := 37) rfl ?_); refine goesL_ (some 75) rfl rfl Tryd.func37 (by kernel_rfl) rfl #[.string (a0.extract (x4_1 : Int).toNat ((wrap64 (x4_1 + t251)) : Int).toNat)] rfl (by (try simp only [List.map_toArray, List.map_cons, List.map_nil]); first | done | rfl | (simp only [List.length_drop, List.length_take]; rfl)) ?_; (with_reducible refine (spec_l2Class.calls kj50 (a0.extract (x4_1 : Int).toNat ((wrap64 (x4_1 + t251)) : Int).toNat) t252 _ A58.out).mono ?_); rintro e w' ⟨rfl, ⟨nd, rfl⟩⟩; refine ⟨_, rfl, ?_⟩))
                                        go_roundg kj50
                                        case measure => have := HK1.out; have := HJ9.out; have := HJ36.out; have := HJ50.out; omega
                                        case rel => exact ⟨(x3_1), (wrap64 (x4_1 + t251)), (by first | rfl | (simp; done) | (simp [*]; done)), H', ⟨by have := HK1.out; have := HJ9.out; have := HJ36.out; have := HJ50.out; omega⟩, ⟨by (with_reducible repeat (first | apply Kd.R_alloc | apply Kd.R_drewN | apply Kd.R_drew)); exact HO_3.out⟩, ⟨by repeat (first | (with_reducible first | exact HB.out | apply below_alloc | apply pw_below_drewN | apply below_drew1) | exact HB.out)⟩⟩
                                    · rw [if_neg c57] at H
                                      exact absurd H (by simp)
                                  · rw [if_neg c56] at H
                                    exact absurd H (by simp)
                                · rw [if_neg c55] at H
                                  exact absurd H (by simp)
                              · replace c53 := Bool.eq_false_iff.mpr c53
                                subst c53
                                have H1 : (if (wrap64 (x4_1 + 1)) < (a0.size : Int) then (if 0 ≤ x4_1 then (if x4_1 ≤ (wrap64 (x4_1 + 2)) then (if (wrap64 (x4_1 + 2)) ≤ (a0.size : Int) then (spec_Tokens.j5 kj50 a0 x3_1 x4_1 (bt a0 x4_1) 1 0 ((a0.extract (x4_1 : Int).toNat ((wrap64 (x4_1 + 2)) : Int).toNat).toList == ([45, 62] : List UInt8))) else (none)) else (none)) else (none)) else (spec_Tokens.j5 kj50 a0 x3_1 x4_1 (bt a0 x4_1) 1 0 false)) = some r := by rw [if_neg (show ¬ (false = true) by decide)] at H; exact H
                                clear H
                                have H := H1
                                clear H1
                                have HC65 := Aside0.mk H
                                clear H
                                go_upto_region 21 with (fail)
                                go_cut [88] (fun v88 wc => ∃ (kq : Nat) (x88_64 : Bool), v88 = .bool x88_64 ∧ Aside0 (spec_Tokens.j5 kq a0 x3_1 x4_1 (bt a0 x4_1) 1 0 x88_64 = some r) ∧ Aside0 (kq ≤ kj50) ∧ Aside0 (Kd.R k75 75 wc w.heap.size (fun _ => True) u3 x3_1) ∧ Aside0 (Below w.heap.size w wc))
                                case first =>
                                  have H := HC65.out
                                  clear HC65
                                  by_cases c66 : (wrap64 (x4_1 + 1)) < (a0.size : Int)
                                  · rw [if_pos c66] at H
                                    have c66b0 : decide ((wrap64 (x4_1 + 1)) < (a0.size : Int)) = true := decide_eq_true c66
                                    clear c66
                                    (first | rw [c66b0] | (simp only [i64_w, i32_w]; rw [c66b0]) | skip)
                                    by_cases c67 : 0 ≤ x4_1
                                    · rw [if_pos c67] at H
                                      have c67b0 := eq_true c67
                                      have c67b1 : decide (0 ≤ x4_1) = true := decide_eq_true c67
                                      clear c67
                                      by_cases c68 : x4_1 ≤ (wrap64 (x4_1 + 2))
                                      · rw [if_pos c68] at H
                                        have c68b0 := eq_true c68
                                        have c68b1 : decide (x4_1 ≤ (wrap64 (x4_1 + 2))) = true := decide_eq_true c68
                                        by_cases c69 : (wrap64 (x4_1 + 2)) ≤ (a0.size : Int)
                                        · rw [if_pos c69] at H
                                          have c69b0 := eq_true c69
                                          have c69b1 : decide ((wrap64 (x4_1 + 2)) ≤ (a0.size : Int)) = true := decide_eq_true c69
                                          have H' := Aside0.mk H
                                          clear H
                                          go_wp2
                                          go_meet
                                          case rel => exact ⟨_, (((a0.extract (x4_1 : Int).toNat ((wrap64 (x4_1 + 2)) : Int).toNat).toList == ([45, 62] : List UInt8))), (by first | rfl | (simp; done) | (simp [*]; done)), H', ⟨by have := HK1.out; have := HJ9.out; have := HJ36.out; have := HJ50.out; first | omega | exact Nat.le_refl _⟩, ⟨by (with_reducible repeat (first | apply Kd.R_alloc | apply Kd.R_drewN | apply Kd.R_drew)); exact HO_3.out⟩, ⟨by repeat (first | (with_reducible first | exact HB.out | apply below_alloc | apply pw_below_drewN | apply below_drew1) | exact HB.out)⟩⟩
                                        · rw [if_neg c69] at H
                                          exact absurd H (by simp)
                                      · rw [if_neg c68] at H
                                        exact absurd H (by simp)
                                    · rw [if_neg c67] at H
                                      exact absurd H (by simp)
                                  · rw [if_neg c66] at H
                                    have c66b0 : decide ((wrap64 (x4_1 + 1)) < (a0.size : Int)) = false := decide_eq_false c66
                                    clear c66
                                    (first | rw [c66b0] | (simp only [i64_w, i32_w]; rw [c66b0]) | skip)
                                    have H' := Aside0.mk H
                                    clear H
                                    go_wp2
                                    go_meet
                                    case rel => exact ⟨_, (false), (by first | rfl | (simp; done) | (simp [*]; done)), H', ⟨by have := HK1.out; have := HJ9.out; have := HJ36.out; have := HJ50.out; first | omega | exact Nat.le_refl _⟩, ⟨by (with_reducible repeat (first | apply Kd.R_alloc | apply Kd.R_drewN | apply Kd.R_drew)); exact HO_3.out⟩, ⟨by repeat (first | (with_reducible first | exact HB.out | apply below_alloc | apply pw_below_drewN | apply below_drew1) | exact HB.out)⟩⟩
                                case rest =>
                                  clear HC65
                                  try clear c1
                                  try clear c2
                                  try clear c2b0
                                  try clear c2b1
                                  try clear p2
                                  try clear q2
                                  try clear hx2
                                  try clear c3
                                  try clear c4
                                  try clear c5
                                  try clear c6
                                  try clear p6
                                  try clear c7
                                  try clear c7b0
                                  try clear c8
                                  try clear c8b0
                                  try clear p9
                                  try clear q9
                                  try clear hx9
                                  try clear c11
                                  try clear c11b0
                                  try clear c11b1
                                  try clear c12
                                  try clear c13
                                  try clear c13b0
                                  try clear c14
                                  try clear c14b0
                                  try clear c14b1
                                  try clear c15
                                  try clear c15b0
                                  try clear c15b1
                                  try clear c16
                                  try clear c16b0
                                  try clear c16b1
                                  try clear c17
                                  try clear c19
                                  try clear c19b0
                                  try clear c19b1
                                  try clear c20
                                  try clear c20b0
                                  try clear c22
                                  try clear c22b0
                                  try clear p23
                                  try clear q23
                                  try clear hx23
                                  try clear c24
                                  try clear c24b0
                                  try clear c24b1
                                  try clear c25
                                  try clear c25b0
                                  try clear c26
                                  try clear c26b0
                                  try clear c26b1
                                  try clear c27
                                  try clear c27b0
                                  try clear c27b1
                                  try clear c28
                                  try clear c28b0
                                  try clear c28b1
                                  try clear c29
                                  try clear c31
                                  try clear c31b0
                                  try clear c32
                                  try clear c32b0
                                  try clear c32b1
                                  try clear c33
                                  try clear c33b0
                                  try clear c33b1
                                  try clear c34
                                  try clear c34b0
                                  try clear c34b1
                                  try clear c35
                                  try clear c36
                                  try clear c37
                                  try clear c38
                                  try clear c38b0
                                  try clear c39
                                  try clear c41
                                  try clear c41b0
                                  try clear c41b1
                                  try clear c42
                                  try clear c42b0
                                  try clear c42b1
                                  try clear c43
                                  try clear c43b0
                                  try clear c43b1
                                  try clear c45
                                  try clear c45b0
                                  try clear c46
                                  try clear c46b0
                                  try clear c47
                                  try clear c47b0
                                  try clear c48
                                  try clear c48b0
                                  try clear c49
                                  try clear c52
                                  try clear c52b0
                                  try clear c53
                                  try clear c55
                                  try clear c55b0
                                  try clear c55b1
                                  try clear c56
                                  try clear c56b0
                                  try clear c56b1
                                  try clear c57
                                  try clear c57b0
                                  try clear c57b1
                                  try clear c59
                                  try clear c59b0
                                  try clear c60
                                  try clear c60b0
                                  try clear c61
                                  try clear c61b0
                                  try clear c62
                                  try clear c62b0
                                  try clear c63
                                  try clear p64
                                  try clear c66
                                  try clear c66b0
                                  try clear c67
                                  try clear c67b0
                                  try clear c67b1
                                  try clear c68
                                  try clear c68b0
                                  try clear c68b1
                                  try clear c69
                                  try clear c69b0
                                  try clear c69b1
                                  try clear p2
                                  try clear p23
                                  try clear p6
                                  try clear p9
                                  try clear q2
                                  try clear q23
                                  try clear q9
                                  obtain ⟨kq, x88_64, rfl, HA, HJ64, HO_3, HB⟩ := hcut
                                  cases kq with
                                  | zero => exact absurd HA.out (by simp [spec_Tokens.j5])
                                  | succ kj64 =>
                                    have H := HA.out
                                    clear HA
                                    simp only [spec_Tokens.j5] at H
                                    by_cases c70 : x88_64 = true
                                    · subst c70
                                      have H1 : (if 4 ≥ 0 then (if 0 ≤ x4_1 then (if x4_1 ≤ (wrap64 (x4_1 + 2)) then (if (wrap64 (x4_1 + 2)) ≤ (a0.size : Int) then (if x3_1.length < 4398046511104 then (spec_Tokens.l0 kj64 a0 (x3_1 ++ [(⟨4, a0.extract (x4_1 : Int).toNat ((wrap64 (x4_1 + 2)) : Int).toNat, x4_1⟩ : S75)]) (wrap64 (x4_1 + 2))) else (none)) else (none)) else (none)) else (none)) else (spec_Tokens.l0 kj64 a0 x3_1 (wrap64 (x4_1 + 2)))) = some r := by rw [if_pos rfl] at H; exact H
                                      clear H
                                      have H := H1
                                      clear H1
                                      by_cases c71 : 4 ≥ 0
                                      · rw [if_pos c71] at H
                                        have c71b0 : decide (0 ≤ 4) = true := decide_eq_true c71
                                        clear c71
                                        by_cases c72 : 0 ≤ x4_1
                                        · rw [if_pos c72] at H
                                          have c72b0 := eq_true c72
                                          have c72b1 : decide (0 ≤ x4_1) = true := decide_eq_true c72
                                          clear c72
                                          by_cases c73 : x4_1 ≤ (wrap64 (x4_1 + 2))
                                          · rw [if_pos c73] at H
                                            have c73b0 := eq_true c73
                                            have c73b1 : decide (x4_1 ≤ (wrap64 (x4_1 + 2))) = true := decide_eq_true c73
                                            by_cases c74 : (wrap64 (x4_1 + 2)) ≤ (a0.size : Int)
                                            · rw [if_pos c74] at H
                                              have c74b0 := eq_true c74
                                              have c74b1 : decide ((wrap64 (x4_1 + 2)) ≤ (a0.size : Int)) = true := decide_eq_true c74
                                              by_cases c75 : x3_1.length < 4398046511104
                                              · rw [if_pos c75] at H
                                                have LMc75 := Aside0.mk c75
                                                clear c75
                                                obtain ⟨y256, hy256⟩ : ∃ y_ : List (S75), y_ = (x3_1 ++ [(⟨4, a0.extract (x4_1 : Int).toNat ((wrap64 (x4_1 + 2)) : Int).toNat, x4_1⟩ : S75)]) := ⟨_, rfl⟩
                                                replace H : (spec_Tokens.l0 kj64 a0 y256 (wrap64 (x4_1 + 2))) = some r := by first | (rw [hy256]; with_reducible exact H) | (have H2_ := (Option.bind_some _ _).symm.trans H; rw [hy256]; with_reducible exact H2_) | (have H2_ := (Option.bind_some _ _).symm.trans H; with_reducible exact H2_) | with_reducible exact H | (rw [hy256]; exact H) | exact H
                                                have Ny256 := Aside0.mk hy256
                                                clear hy256
                                                have H' := Aside0.mk H
                                                clear H
                                                go_wp2_with (first | ((with_reducible refine gate_builtin (b := .append) (xs := #[.tmp 93, .tmp 103]) rfl ?_); at_builtin; refine Kd.R_append k75 (w0 := w) w.heap.size rfl (.tmp 93) (.tmp 103) 40 75 (.agg #[(.int .i64 0), (.string ⟨#[]⟩), (.int .i64 0)]) 32 rfl Tryd.underlying40 info75 rfl (by decide) (by omega) u3 x3_1 (⟨4, a0.extract (x4_1 : Int).toNat ((wrap64 (x4_1 + 2)) : Int).toNat, x4_1⟩ : S75) [.int .i64 4, .string (a0.extract (x4_1 : Int).toNat ((wrap64 (x4_1 + 2)) : Int).toNat), .int .i64 x4_1] (fun _ => True) (fun _ => False) rfl rfl ?aP (fun _ hk => hk.elim) ?aF ?aO ?aB ?aS ?aL ?_; (case aP => exact k75_mkM _ _ _ (⟨4, a0.extract (x4_1 : Int).toNat ((wrap64 (x4_1 + 2)) : Int).toNat, x4_1⟩ : S75)); (case aB => exact (by repeat (first | (with_reducible first | exact HB.out | apply below_alloc | apply pw_below_drewN | apply below_drew1) | exact HB.out))); (case aF => exact (fun _ _ => trivial)); (case aO => exact (by (with_reducible repeat (first | apply Kd.R_alloc | apply Kd.R_drewN | apply Kd.R_drew)); exact HO_3.out)); (case aS => exact (below_size (by repeat (first | (with_reducible first | exact HB.out | apply below_alloc | apply pw_below_drewN | apply below_drew1) | exact HB.out)))); (case aL => have := LMc75.out; omega); intro v257 w76 ho hb hg hat; rw [← Ny256.out] at ho; have n0_ := Aside0.mk (hb); have n1_ := Aside0.mk (ho); clear HB; clear HO_3; have HB := n0_; have HO258 := n1_; clear n0_ n1_; clear ho hb hg hat))
                                                go_roundg kj64
                                                case measure => have := HK1.out; have := HJ9.out; have := HJ36.out; have := HJ50.out; have := HJ64.out; omega
                                                case rel => exact ⟨(y256), (wrap64 (x4_1 + 2)), (by first | rfl | (simp; done) | (simp [*]; done)), H', ⟨by have := HK1.out; have := HJ9.out; have := HJ36.out; have := HJ50.out; have := HJ64.out; omega⟩, ⟨by (with_reducible repeat (first | apply Kd.R_alloc | apply Kd.R_drewN | apply Kd.R_drew)); exact HO258.out⟩, ⟨by repeat (first | (with_reducible first | exact HB.out | apply below_alloc | apply pw_below_drewN | apply below_drew1) | exact HB.out)⟩⟩
                                              · rw [if_neg c75] at H
                                                exact absurd H (by simp)
                                            · rw [if_neg c74] at H
                                              exact absurd H (by simp)
                                          · rw [if_neg c73] at H
                                            exact absurd H (by simp)
                                        · rw [if_neg c72] at H
                                          exact absurd H (by simp)
                                      · exact absurd (by decide) c71
                                    · replace c70 := Bool.eq_false_iff.mpr c70
                                      subst c70
                                      have H1 : ((spec_l2Sign.f kj64 (bt a0 x4_1)).bind fun t259 => (if t259 = true then (if 4 ≥ 0 then (if 0 ≤ x4_1 then (if x4_1 ≤ (wrap64 (x4_1 + 1)) then (if (wrap64 (x4_1 + 1)) ≤ (a0.size : Int) then (if x3_1.length < 4398046511104 then (spec_Tokens.l0 kj64 a0 (x3_1 ++ [(⟨4, a0.extract (x4_1 : Int).toNat ((wrap64 (x4_1 + 1)) : Int).toNat, x4_1⟩ : S75)]) (wrap64 (x4_1 + 1))) else (none)) else (none)) else (none)) else (none)) else (spec_Tokens.l0 kj64 a0 x3_1 (wrap64 (x4_1 + 1)))) else (if 0 ≥ 0 then (if 0 ≤ x4_1 then (if x4_1 ≤ (wrap64 (x4_1 + 1)) then (if (wrap64 (x4_1 + 1)) ≤ (a0.size : Int) then (if x3_1.length < 4398046511104 then (spec_Tokens.l0 kj64 a0 (x3_1 ++ [(⟨0, a0.extract (x4_1 : Int).toNat ((wrap64 (x4_1 + 1)) : Int).toNat, x4_1⟩ : S75)]) (wrap64 (x4_1 + 1))) else (none)) else (none)) else (none)) else (none)) else (spec_Tokens.l0 kj64 a0 x3_1 (wrap64 (x4_1 + 1)))))) = some r := by rw [if_neg (show ¬ (false = true) by decide)] at H; exact H
                                      clear H
                                      have H := H1
                                      clear H1
                                      replace H := Option.bind_eq_some_iff.mp H
                                      obtain ⟨t259, A770, H⟩ := H
                                      replace H : (if t259 = true then (if 4 ≥ 0 then (if 0 ≤ x4_1 then (if x4_1 ≤ (wrap64 (x4_1 + 1)) then (if (wrap64 (x4_1 + 1)) ≤ (a0.size : Int) then (if x3_1.length < 4398046511104 then (spec_Tokens.l0 kj64 a0 (x3_1 ++ [(⟨4, a0.extract (x4_1 : Int).toNat ((wrap64 (x4_1 + 1)) : Int).toNat, x4_1⟩ : S75)]) (wrap64 (x4_1 + 1))) else (none)) else (none)) else (none)) else (none)) else (spec_Tokens.l0 kj64 a0 x3_1 (wrap64 (x4_1 + 1)))) else (if 0 ≥ 0 then (if 0 ≤ x4_1 then (if x4_1 ≤ (wrap64 (x4_1 + 1)) then (if (wrap64 (x4_1 + 1)) ≤ (a0.size : Int) then (if x3_1.length < 4398046511104 then (spec_Tokens.l0 kj64 a0 (x3_1 ++ [(⟨0, a0.extract (x4_1 : Int).toNat ((wrap64 (x4_1 + 1)) : Int).toNat, x4_1⟩ : S75)]) (wrap64 (x4_1 + 1))) else (none)) else (none)) else (none)) else (none)) else (spec_Tokens.l0 kj64 a0 x3_1 (wrap64 (x4_1 + 1))))) = some r := H
                                      have A77 := Aside0.mk A770
                                      clear A770
                                      by_cases c78 : t259 = true
                                      · subst c78
                                        have H1 : (if 4 ≥ 0 then (if 0 ≤ x4_1 then (if x4_1 ≤ (wrap64 (x4_1 + 1)) then (if (wrap64 (x4_1 + 1)) ≤ (a0.size : Int) then (if x3_1.length < 4398046511104 then (spec_Tokens.l0 kj64 a0 (x3_1 ++ [(⟨4, a0.extract (x4_1 : Int).toNat ((wrap64 (x4_1 + 1)) : Int).toNat, x4_1⟩ : S75)]) (wrap64 (x4_1 + 1))) else (none)) else (none)) else (none)) else (none)) else (spec_Tokens.l0 kj64 a0 x3_1 (wrap64 (x4_1 + 1)))) = some r := by rw [if_pos rfl] at H; exact H
                                        clear H
                                        have H := H1
                                        clear H1
                                        by_cases c79 : 4 ≥ 0
                                        · rw [if_pos c79] at H
                                          have c79b0 : decide (0 ≤ 4) = true := decide_eq_true c79
                                          clear c79
                                          by_cases c80 : 0 ≤ x4_1
                                          · rw [if_pos c80] at H
                                            have c80b0 := eq_true c80
                                            have c80b1 : decide (0 ≤ x4_1) = true := decide_eq_true c80
                                            clear c80
                                            by_cases c81 : x4_1 ≤ (wrap64 (x4_1 + 1))
                                            · rw [if_pos c81] at H
                                              have c81b0 := eq_true c81
                                              have c81b1 : decide (x4_1 ≤ (wrap64 (x4_1 + 1))) = true := decide_eq_true c81
                                              by_cases c82 : (wrap64 (x4_1 + 1)) ≤ (a0.size : Int)
                                              · rw [if_pos c82] at H
                                                have c82b0 := eq_true c82
                                                have c82b1 : decide ((wrap64 (x4_1 + 1)) ≤ (a0.size : Int)) = true := decide_eq_true c82
                                                by_cases c83 : x3_1.length < 4398046511104
                                                · rw [if_pos c83] at H
                                                  have LMc83 := Aside0.mk c83
                                                  clear c83
                                                  obtain ⟨y260, hy260⟩ : ∃ y_ : List (S75), y_ = (x3_1 ++ [(⟨4, a0.extract (x4_1 : Int).toNat ((wrap64 (x4_1 + 1)) : Int).toNat, x4_1⟩ : S75)]) := ⟨_, rfl⟩
                                                  replace H : (spec_Tokens.l0 kj64 a0 y260 (wrap64 (x4_1 + 1))) = some r := by first | (rw [hy260]; with_reducible exact H) | (have H2_ := (Option.bind_some _ _).symm.trans H; rw [hy260]; with_reducible exact H2_) | (have H2_ := (Option.bind_some _ _).symm.trans H; with_reducible exact H2_) | with_reducible exact H | (rw [hy260]; exact H) | exact H
                                                  have Ny260 := Aside0.mk hy260
                                                  clear hy260
                                                  have H' := Aside0.mk H
                                                  clear H
                                                  go_wp2_with (first | ((with_reducible refine gate_callee (f := 38) rfl ?_); refine goesL_ (some 90) rfl rfl Tryd.func38 (by kernel_rfl) rfl #[.int .u8 (bt a0 x4_1)] rfl (by (try simp only [List.map_toArray, List.map_cons, List.map_nil]); first | done | rfl | (simp only [List.length_drop, List.length_take]; rfl)) ?_; (with_reducible refine (spec_l2Sign.calls kj64 (bt a0 x4_1) true _ A77.out).mono ?_); rintro e w' ⟨rfl, ⟨nd, rfl⟩⟩; refine ⟨_, rfl, ?_⟩) | ((with_reducible refine gate_builtin (b := .append) (xs := #[.tmp 93, .tmp 103]) rfl ?_); at_builtin; refine Kd.R_append k75 (w0 := w) w.heap.size rfl (.tmp 93) (.tmp 103) 40 75 (.agg #[(.int .i64 0), (.string ⟨#[]⟩), (.int .i64 0)]) 32 rfl Tryd.underlying40 info75 rfl (by decide) (by omega) u3 x3_1 (⟨4, a0.extract (x4_1 : Int).toNat ((wrap64 (x4_1 + 1)) : Int).toNat, x4_1⟩ : S75) [.int .i64 4, .string (a0.extract (x4_1 : Int).toNat ((wrap64 (x4_1 + 1)) : Int).toNat), .int .i64 x4_1] (fun _ => True) (fun _ => False) rfl rfl ?aP (fun _ hk => hk.elim) ?aF ?aO ?aB ?aS ?aL ?_; (case aP => exact k75_mkM _ _ _ (⟨4, a0.extract (x4_1 : Int).toNat ((wrap64 (x4_1 + 1)) : Int).toNat, x4_1⟩ : S75)); (case aB => exact (by repeat (first | (with_reducible first | exact HB.out | apply below_alloc | apply pw_below_drewN | apply below_drew1) | exact HB.out))); (case aF => exact (fun _ _ => trivial)); (case aO => exact (by (with_reducible repeat (first | apply Kd.R_alloc | apply Kd.R_drewN | apply Kd.R_drew)); exact HO_3.out)); (case aS => exact (below_size (by repeat (first | (with_reducible first | exact HB.out | apply below_alloc | apply pw_below_drewN | apply below_drew1) | exact HB.out)))); (case aL => have := LMc83.out; omega); intro v261 w84 ho hb hg hat; rw [← Ny260.out] at ho; have n0_ := Aside0.mk (hb); have n1_ := Aside0.mk (ho); clear HB; clear HO_3; have HB := n0_; have HO262 := n1_; clear n0_ n1_; clear ho hb hg hat))
                                                  go_roundg kj64
                                                  case measure => have := HK1.out; have := HJ9.out; have := HJ36.out; have := HJ50.out; have := HJ64.out; omega
                                                  case rel => exact ⟨(y260), (wrap64 (x4_1 + 1)), (by first | rfl | (simp; done) | (simp [*]; done)), H', ⟨by have := HK1.out; have := HJ9.out; have := HJ36.out; have := HJ50.out; have := HJ64.out; omega⟩, ⟨by (with_reducible repeat (first | apply Kd.R_alloc | apply Kd.R_drewN | apply Kd.R_drew)); exact HO262.out⟩, ⟨by repeat (first | (with_reducible first | exact HB.out | apply below_alloc | apply pw_below_drewN | apply below_drew1) | exact HB.out)⟩⟩
                                                · rw [if_neg c83] at H
                                                  exact absurd H (by simp)
                                              · rw [if_neg c82] at H
                                                exact absurd H (by simp)
                                            · rw [if_neg c81] at H
                                              exact absurd H (by simp)
                                          · rw [if_neg c80] at H
                                            exact absurd H (by simp)
                                        · exact absurd (by decide) c79
                                      · replace c78 := Bool.eq_false_iff.mpr c78
                                        subst c78
                                        have H1 : (if 0 ≥ 0 then (if 0 ≤ x4_1 then (if x4_1 ≤ (wrap64 (x4_1 + 1)) then (if (wrap64 (x4_1 + 1)) ≤ (a0.size : Int) then (if x3_1.length < 4398046511104 then (spec_Tokens.l0 kj64 a0 (x3_1 ++ [(⟨0, a0.extract (x4_1 : Int).toNat ((wrap64 (x4_1 + 1)) : Int).toNat, x4_1⟩ : S75)]) (wrap64 (x4_1 + 1))) else (none)) else (none)) else (none)) else (none)) else (spec_Tokens.l0 kj64 a0 x3_1 (wrap64 (x4_1 + 1)))) = some r := by rw [if_neg (show ¬ (false = true) by decide)] at H; exact H
                                        clear H
                                        have H := H1
                                        clear H1
                                        by_cases c85 : 0 ≥ 0
                                        · rw [if_pos c85] at H
                                          have c85b0 : decide (0 ≤ 0) = true := decide_eq_true c85
                                          clear c85
                                          by_cases c86 : 0 ≤ x4_1
                                          · rw [if_pos c86] at H
                                            have c86b0 := eq_true c86
                                            have c86b1 : decide (0 ≤ x4_1) = true := decide_eq_true c86
                                            clear c86
                                            by_cases c87 : x4_1 ≤ (wrap64 (x4_1 + 1))
                                            · rw [if_pos c87] at H
                                              have c87b0 := eq_true c87
                                              have c87b1 : decide (x4_1 ≤ (wrap64 (x4_1 + 1))) = true := decide_eq_true c87
                                              by_cases c88 : (wrap64 (x4_1 + 1)) ≤ (a0.size : Int)
                                              · rw [if_pos c88] at H
                                                have c88b0 := eq_true c88
                                                have c88b1 : decide ((wrap64 (x4_1 + 1)) ≤ (a0.size : Int)) = true := decide_eq_true c88
                                                by_cases c89 : x3_1.length < 4398046511104
                                                · rw [if_pos c89] at H
                                                  have LMc89 := Aside0.mk c89
                                                  clear c89
                                                  obtain ⟨y263, hy263⟩ : ∃ y_ : List (S75), y_ = (x3_1 ++ [(⟨0, a0.extract (x4_1 : Int).toNat ((wrap64 (x4_1 + 1)) : Int).toNat, x4_1⟩ : S75)]) := ⟨_, rfl⟩
                                                  replace H : (spec_Tokens.l0 kj64 a0 y263 (wrap64 (x4_1 + 1))) = some r := by first | (rw [hy263]; with_reducible exact H) | (have H2_ := (Option.bind_some _ _).symm.trans H; rw [hy263]; with_reducible exact H2_) | (have H2_ := (Option.bind_some _ _).symm.trans H; with_reducible exact H2_) | with_reducible exact H | (rw [hy263]; exact H) | exact H
                                                  have Ny263 := Aside0.mk hy263
                                                  clear hy263
                                                  have H' := Aside0.mk H
                                                  clear H
                                                  go_wp2_with (first | ((with_reducible refine gate_callee (f := 38) rfl ?_); refine goesL_ (some 90) rfl rfl Tryd.func38 (by kernel_rfl) rfl #[.int .u8 (bt a0 x4_1)] rfl (by (try simp only [List.map_toArray, List.map_cons, List.map_nil]); first | done | rfl | (simp only [List.length_drop, List.length_take]; rfl)) ?_; (with_reducible refine (spec_l2Sign.calls kj64 (bt a0 x4_1) false _ A77.out).mono ?_); rintro e w' ⟨rfl, ⟨nd, rfl⟩⟩; refine ⟨_, rfl, ?_⟩) | ((with_reducible refine gate_builtin (b := .append) (xs := #[.tmp 93, .tmp 103]) rfl ?_); at_builtin; refine Kd.R_append k75 (w0 := w) w.heap.size rfl (.tmp 93) (.tmp 103) 40 75 (.agg #[(.int .i64 0), (.string ⟨#[]⟩), (.int .i64 0)]) 32 rfl Tryd.underlying40 info75 rfl (by decide) (by omega) u3 x3_1 (⟨0, a0.extract (x4_1 : Int).toNat ((wrap64 (x4_1 + 1)) : Int).toNat, x4_1⟩ : S75) [.int .i64 0, .string (a0.extract (x4_1 : Int).toNat ((wrap64 (x4_1 + 1)) : Int).toNat), .int .i64 x4_1] (fun _ => True) (fun _ => False) rfl rfl ?aP (fun _ hk => hk.elim) ?aF ?aO ?aB ?aS ?aL ?_; (case aP => exact k75_mkM _ _ _ (⟨0, a0.extract (x4_1 : Int).toNat ((wrap64 (x4_1 + 1)) : Int).toNat, x4_1⟩ : S75)); (case aB => exact (by repeat (first | (with_reducible first | exact HB.out | apply below_alloc | apply pw_below_drewN | apply below_drew1) | exact HB.out))); (case aF => exact (fun _ _ => trivial)); (case aO => exact (by (with_reducible repeat (first | apply Kd.R_alloc | apply Kd.R_drewN | apply Kd.R_drew)); exact HO_3.out)); (case aS => exact (below_size (by repeat (first | (with_reducible first | exact HB.out | apply below_alloc | apply pw_below_drewN | apply below_drew1) | exact HB.out)))); (case aL => have := LMc89.out; omega); intro v264 w90 ho hb hg hat; rw [← Ny263.out] at ho; have n0_ := Aside0.mk (hb); have n1_ := Aside0.mk (ho); clear HB; clear HO_3; have HB := n0_; have HO265 := n1_; clear n0_ n1_; clear ho hb hg hat))
                                                  go_roundg kj64
                                                  case measure => have := HK1.out; have := HJ9.out; have := HJ36.out; have := HJ50.out; have := HJ64.out; omega
                                                  case rel => exact ⟨(y263), (wrap64 (x4_1 + 1)), (by first | rfl | (simp; done) | (simp [*]; done)), H', ⟨by have := HK1.out; have := HJ9.out; have := HJ36.out; have := HJ50.out; have := HJ64.out; omega⟩, ⟨by (with_reducible repeat (first | apply Kd.R_alloc | apply Kd.R_drewN | apply Kd.R_drew)); exact HO265.out⟩, ⟨by repeat (first | (with_reducible first | exact HB.out | apply below_alloc | apply pw_below_drewN | apply below_drew1) | exact HB.out)⟩⟩
                                                · rw [if_neg c89] at H
                                                  exact absurd H (by simp)
                                              · rw [if_neg c88] at H
                                                exact absurd H (by simp)
                                            · rw [if_neg c87] at H
                                              exact absurd H (by simp)
                                          · rw [if_neg c86] at H
                                            exact absurd H (by simp)
                                        · exact absurd (by decide) c85
          · rw [if_neg c8] at H
            exact absurd H (by simp)
        · rw [if_neg c7] at H
          have c7b0 : decide (x4_1 < (a0.size : Int)) = false := decide_eq_false c7
          clear c7
          obtain rfl := Option.some.inj H
          go_wp2
          go_ret
          exact ⟨_, by first | rfl | (simp [errW_none, errW_some] <;> rfl) | (simp [*, errW_none, errW_some] <;> rfl), by (with_reducible repeat (first | apply Kd.R_alloc | apply Kd.R_drewN | apply Kd.R_drew)); exact HO_3.out, by repeat (first | (with_reducible first | exact HB.out | apply below_alloc | apply pw_below_drewN | apply below_drew1) | exact HB.out)⟩
end Go.Proofs.YtiicaoiijhodkaaDoor.Gp
end
