/- A part of the proof of RowFnExactSame: each text's theorems that it needs, packed by shake.py, a program of this work; Lean checks them. -/
import Derived.Test.YtnbohlcibgfjaaaDoorSm2
import Derived.Test.YtnbohlcibgfjaaaDoorSm10
section
namespace Go.Proofs.YtnbohlcibgfjaaaDoor.Gp
open Go.RowKit Go.Proofs.YtnbohlcibgfjaaaDoorW.PrintWords Go.Proofs.YtnbohlcibgfjaaaDoorW.PrintLast Go.Proofs.YtnbohlcibgfjaaaDoorW.PrintMore
set_option linter.unusedVariables false
set_option linter.unusedSimpArgs false
abbrev NdT := S145
def kids_d : Nat → List Int → List Int → Nat → List PrT → Option (List PrT)
  | 0, _, _, _, _ => none
  | k + 1, xs, ys, i, o => if o.length < 1099511627776 ∧ xs.length < 1099511627776 then (if i < xs.length then (if i < ys.length then (if (-9223372036854775808 ≤ rd xs i ∧ rd xs i ≤ 9223372036854775807) ∧ (-9223372036854775808 ≤ rd ys i ∧ rd ys i ≤ 9223372036854775807) then kids_d k xs ys (i + 1) (addP o ⟨rd xs i, rd ys i, 0⟩) else none) else none) else some o) else none
def same_st (g : List NdT) (k : Nat) (q : PrT) (o : List PrT) : Option (Bool × List PrT) :=
  if (0 ≤ q.f0 ∧ q.f0 < (g.length : Int)) ∧ (0 ≤ q.f1 ∧ q.f1 < (g.length : Int)) then (if (rd_T145 g q.f0).f0 = (rd_T145 g q.f1).f0 then (slices_Equal_string_string.f k (rd_T145 g q.f0).f1 (rd_T145 g q.f1).f1).bind fun t => (if t = true then (kids_d k (rd_T145 g q.f0).f2 (rd_T145 g q.f1).f2 0 o).bind fun o' => some (true, o') else some (false, o)) else some (false, o)) else none
set_option maxHeartbeats 32000000 in
set_option maxRecDepth 100000 in
theorem same_step (k : Nat) (gg : Nat) (A : Option Addr) (c : Nat) (g : List NdT) (w0 : World) (hC : Kd.C k145 w0 A g.length g) (W : World) (gm gp : Nat) (o o' : List PrT) (q : PrT) (rr : Bool) (hP : PrAt w0 W gm gp o) (hgg : W.heap[gg]? = some (.cells #[.slice A g.length c] 76 (0, 0))) (h : same_st g k q o = some (rr, o')) :
    Calls Tryd.prog 104 #[.agg #[.int .i64 q.f0, .int .i64 q.f1, .int .i64 q.f2], .func (.func 139) #[] #[.pointer (some ⟨gm, 0, none⟩)], .pointer (some ⟨gg, 0, none⟩)] W fun e W' => e = .returned (.bool rr) ∧ PrAt w0 W' gm gp o' ∧ FrP W W' := by
  have hu1 := Tryd.underlying141
  have hu2 := Tryd.underlying76
  have hu3 := Tryd.underlying145
  have hu4 := Tryd.underlying74
  have hu5 := Tryd.underlying135
  unfold same_st at h
  by_cases gq_ : (0 ≤ q.f0 ∧ q.f0 < (g.length : Int)) ∧ (0 ≤ q.f1 ∧ q.f1 < (g.length : Int))
  case neg => rw [if_neg gq_] at h; cases h
  rw [if_pos gq_] at h
  obtain ⟨ad, A1, c1, A2, c2, eA, hx0, hx1, hx2, hl1, hC1, hl2, hC2⟩ := at_T145 hC q.f0 gq_.1.1 gq_.1.2
  obtain ⟨ad', B1, d1, B2, d2, eB, hy0, hy1, hy2, hm1, hD1, hm2, hD2⟩ := at_T145 hC q.f1 gq_.2.1 gq_.2.2
  cases eA
  cases eB
  replace hx0 := pw_cell_below hP.bel hx0
  replace hx1 := pw_cell_below hP.bel hx1
  replace hx2 := pw_cell_below hP.bel hx2
  replace hy0 := pw_cell_below hP.bel hy0
  replace hy1 := pw_cell_below hP.bel hy1
  replace hy2 := pw_cell_below hP.bel hy2
  have p0 := eq_true gq_.1.1
  have q0 := eq_true gq_.1.2
  have p1 := eq_true gq_.2.1
  have q1 := eq_true gq_.2.2
  obtain ⟨X, hX⟩ : ∃ X, X = rd_T145 g q.f0 := ⟨_, rfl⟩
  obtain ⟨Y, hY⟩ : ∃ Y, Y = rd_T145 g q.f1 := ⟨_, rfl⟩
  rw [← hX] at hx0 hx1 hx2 hl1 hC1 hl2 hC2
  rw [← hY] at hy0 hy1 hy2 hm1 hD1 hm2 hD2
  rw [← hX, ← hY] at h
  have H := Aside0.mk h
  have HP := Aside0.mk hP
  have HG := Aside0.mk hgg
  have HX := Aside0.mk (And.intro hx0 (And.intro hx1 hx2))
  have HY := Aside0.mk (And.intro hy0 (And.intro hy1 hy2))
  have HC := Aside0.mk (And.intro (And.intro hl1 hC1) (And.intro hl2 hC2))
  have HD := Aside0.mk (And.intro (And.intro hm1 hD1) (And.intro hm2 hD2))
  clear h hP hgg hx0 hx1 hx2 hy0 hy1 hy2 hl1 hC1 hl2 hC2 hm1 hD1 hm2 hD2 hX hY gq_
  go_enter Tryd.func104, Tryd.ntmps104
  go_wp2
  obtain ⟨W2, hW2⟩ : ∃ W2 : World, W2 = W.alloc (.cells #[.int .i64 q.f0, .int .i64 q.f1, .int .i64 q.f2] 141) := ⟨_, rfl⟩
  rw [← hW2]
  have hb2 : Below W.heap.size W W2 := by rw [hW2]; exact below_alloc (Below.refl _ _) _
  have hx9 : W2.heap[W.heap.size]? = some (.cells #[.int .i64 q.f0, .int .i64 q.f1, .int .i64 q.f2] 141 (0, 0)) := by rw [hW2]; exact blk_new _ _
  clear hW2
  have HB2 := Aside0.mk hb2
  have HQ := Aside0.mk hx9
  clear hb2 hx9
  generalize W.heap.size = gq at HQ ⊢
  refine start_ (n := 16) (S := fun w' => w'.cell? ⟨gg, 0, none⟩ = some (.slice (some ad) g.length c) ∧ w'.cell? ⟨gq, 0, none⟩ = some (.int .i64 q.f0) ∧ w'.cell? ⟨gq, 1, none⟩ = some (.int .i64 q.f1) ∧ w'.cell? ⟨gq, 2, none⟩ = some (.int .i64 q.f2) ∧ w'.cell? (ad.add (q.f0.toNat * 3)) = some (.int .i64 X.f0) ∧ w'.cell? ⟨(ad.add (q.f0.toNat * 3)).block, (ad.add (q.f0.toNat * 3)).off + 1, none⟩ = some (.slice A1 X.f1.length c1) ∧ w'.cell? ⟨(ad.add (q.f0.toNat * 3)).block, (ad.add (q.f0.toNat * 3)).off + 2, none⟩ = some (.slice A2 X.f2.length c2) ∧ w'.cell? (ad.add (q.f1.toNat * 3)) = some (.int .i64 Y.f0) ∧ w'.cell? ⟨(ad.add (q.f1.toNat * 3)).block, (ad.add (q.f1.toNat * 3)).off + 1, none⟩ = some (.slice B1 Y.f1.length d1) ∧ w'.cell? ⟨(ad.add (q.f1.toNat * 3)).block, (ad.add (q.f1.toNat * 3)).off + 2, none⟩ = some (.slice B2 Y.f2.length d2)) (ds := [15]) #[false, false, false, false, false, false, false, false, false, false, false, false, false, false, false, false] (by kernel_rfl) rfl rfl ⟨(blk_cell (blk_below HG.out HB2.out) 0).trans rfl, (blk_cell HQ.out 0).trans rfl, (blk_cell HQ.out 1).trans rfl, (blk_cell HQ.out 2).trans rfl, pw_cell_below HB2.out HX.out.1, pw_cell_below HB2.out HX.out.2.1, pw_cell_below HB2.out HX.out.2.2, pw_cell_below HB2.out HY.out.1, pw_cell_below HB2.out HY.out.2.1, pw_cell_below HB2.out HY.out.2.2⟩ (fun hHeld => ?_)
  have HH0 := Aside0.mk hHeld
  refine pure_ (i := 0) (N := some 9) (v := ?_) (a' := ?_) #[true, false, false, false, false, false, false, false, false, false, false, false, false, false, false, false] rfl rfl (by kernel_rfl) (fun _ _ _ h => h) (Or.inl ⟨by rfl, ?_⟩) ?_ ?_
  rotate_left
  · intro w'
    go_simp
    with_reducible rfl
  rotate_left
  · simp only [Act.put, List.setIfInBounds_toArray, List.set_cons_zero, List.set_cons_succ, i64_w, i32_w]
    rfl
  refine take_ (i := 1) (N := some 10) (v := ?_) (a' := ?_) #[true, true, false, false, false, false, false, false, false, false, false, false, false, false, false, false] rfl rfl (by kernel_rfl) (fun _ _ _ h => h) (Or.inl ⟨by rfl, ?_⟩) hHeld ?_ ?_
  rotate_left
  · rintro w' ⟨s0, s1, s2, s3, s4, s5, s6, s7, s8, s9⟩
    go_simp
    with_reducible rfl
  rotate_left
  · simp only [Act.put, List.setIfInBounds_toArray, List.set_cons_zero, List.set_cons_succ, i64_w, i32_w]
    rfl
  refine pure_ (i := 2) (N := some 11) (v := ?_) (a' := ?_) #[true, true, true, false, false, false, false, false, false, false, false, false, false, false, false, false] rfl rfl (by kernel_rfl) (fun _ _ _ h => h) (Or.inl ⟨by rfl, ?_⟩) ?_ ?_
  rotate_left
  · intro w'
    go_simp
    with_reducible rfl
  rotate_left
  · simp only [Act.put, List.setIfInBounds_toArray, List.set_cons_zero, List.set_cons_succ, i64_w, i32_w]
    rfl
  refine take_ (i := 3) (N := some 12) (v := ?_) (a' := ?_) #[true, true, true, true, false, false, false, false, false, false, false, false, false, false, false, false] rfl rfl (by kernel_rfl) (fun _ _ _ h => h) (Or.inl ⟨by rfl, ?_⟩) hHeld ?_ ?_
  rotate_left
  · rintro w' ⟨s0, s1, s2, s3, s4, s5, s6, s7, s8, s9⟩
    go_simp
    with_reducible rfl
  rotate_left
  · simp only [Act.put, List.setIfInBounds_toArray, List.set_cons_zero, List.set_cons_succ, i64_w, i32_w]
    rfl
  refine pure_ (i := 4) (N := some 13) (v := ?_) (a' := ?_) #[true, true, true, true, true, false, false, false, false, false, false, false, false, false, false, false] rfl rfl (by kernel_rfl) (fun _ _ _ h => h) (Or.inl ⟨by rfl, ?_⟩) ?_ ?_
  rotate_left
  · intro w'
    go_simp
    with_reducible rfl
  rotate_left
  · simp only [Act.put, List.setIfInBounds_toArray, List.set_cons_zero, List.set_cons_succ, i64_w, i32_w]
    rfl
  refine take_ (i := 5) (N := some 14) (v := ?_) (a' := ?_) #[true, true, true, true, true, true, false, false, false, false, false, false, false, false, false, false] rfl rfl (by kernel_rfl) (fun _ _ _ h => h) (Or.inl ⟨by rfl, ?_⟩) hHeld ?_ ?_
  rotate_left
  · rintro w' ⟨s0, s1, s2, s3, s4, s5, s6, s7, s8, s9⟩
    go_simp
    with_reducible rfl
  rotate_left
  · simp only [Act.put, List.setIfInBounds_toArray, List.set_cons_zero, List.set_cons_succ, i64_w, i32_w]
    rfl
  refine pure_ (i := 6) (N := some 15) (v := ?_) (a' := ?_) #[true, true, true, true, true, true, true, false, false, false, false, false, false, false, false, false] rfl rfl (by kernel_rfl) (fun _ _ _ h => h) (Or.inl ⟨by rfl, ?_⟩) ?_ ?_
  rotate_left
  · intro w'
    go_simp
    with_reducible rfl
  rotate_left
  · simp only [Act.put, List.setIfInBounds_toArray, List.set_cons_zero, List.set_cons_succ, i64_w, i32_w]
    rfl
  refine take_ (i := 7) (N := some 16) (v := ?_) (a' := ?_) #[true, true, true, true, true, true, true, true, false, false, false, false, false, false, false, false] rfl rfl (by kernel_rfl) (fun _ _ _ h => h) (Or.inl ⟨by rfl, ?_⟩) hHeld ?_ ?_
  rotate_left
  · rintro w' ⟨s0, s1, s2, s3, s4, s5, s6, s7, s8, s9⟩
    go_simp
    with_reducible rfl
  rotate_left
  · simp only [Act.put, List.setIfInBounds_toArray, List.set_cons_zero, List.set_cons_succ, i64_w, i32_w]
    rfl
  refine pure_ (i := 8) (N := some 17) (v := ?_) (a' := ?_) #[true, true, true, true, true, true, true, true, true, false, false, false, false, false, false, false] rfl rfl (by kernel_rfl) (fun _ _ _ h => h) (Or.inl ⟨by rfl, ?_⟩) ?_ ?_
  rotate_left
  · intro w'
    go_simp
    with_reducible rfl
  rotate_left
  · simp only [Act.put, List.setIfInBounds_toArray, List.set_cons_zero, List.set_cons_succ, i64_w, i32_w]
    rfl
  refine take_ (i := 9) (N := some 18) (v := ?_) (a' := ?_) #[true, true, true, true, true, true, true, true, true, true, false, false, false, false, false, false] rfl rfl (by kernel_rfl) (fun _ _ _ h => h) (Or.inl ⟨by rfl, ?_⟩) hHeld ?_ ?_
  rotate_left
  · rintro w' ⟨s0, s1, s2, s3, s4, s5, s6, s7, s8, s9⟩
    go_simp
    with_reducible rfl
  rotate_left
  · simp only [Act.put, List.setIfInBounds_toArray, List.set_cons_zero, List.set_cons_succ, i64_w, i32_w]
    rfl
  refine pure_ (i := 10) (N := some 19) (v := ?_) (a' := ?_) #[true, true, true, true, true, true, true, true, true, true, true, false, false, false, false, false] rfl rfl (by kernel_rfl) (fun _ _ _ h => h) (Or.inl ⟨by rfl, ?_⟩) ?_ ?_
  rotate_left
  · intro w'
    go_simp
    with_reducible rfl
  rotate_left
  · simp only [Act.put, List.setIfInBounds_toArray, List.set_cons_zero, List.set_cons_succ, i64_w, i32_w]
    rfl
  refine take_ (i := 11) (N := some 20) (v := ?_) (a' := ?_) #[true, true, true, true, true, true, true, true, true, true, true, true, false, false, false, false] rfl rfl (by kernel_rfl) (fun _ _ _ h => h) (Or.inl ⟨by rfl, ?_⟩) hHeld ?_ ?_
  rotate_left
  · rintro w' ⟨s0, s1, s2, s3, s4, s5, s6, s7, s8, s9⟩
    go_simp
    with_reducible rfl
  rotate_left
  · simp only [Act.put, List.setIfInBounds_toArray, List.set_cons_zero, List.set_cons_succ, i64_w, i32_w]
    rfl
  refine join_ (σ := Nat × Nat) 2 #[true, true, true, true, true, true, true, true, true, true, true, true, true, true, false, false] (fun s => [(6, .pointer (some ⟨s.1, 0, none⟩)), (7, .pointer (some ⟨s.2, 0, none⟩))]) (fun s w' => w'.heap[s.1]? = some (.cells #[.int .i64 0, .slice none 0 0, .slice none 0 0] 145 (0, 0)) ∧ w'.heap[s.2]? = some (.cells #[.int .i64 0, .slice none 0 0, .slice none 0 0] 145 (0, 0)) ∧ s.1 ≠ s.2 ∧ Below W2.drew.heap.size W2.drew w' ∧ W2.heap.size ≤ s.1 ∧ W2.heap.size ≤ s.2) ?_ ?_
  rotate_left
  · intro hJ
    refine two_ (i := 12) (j := 13) (Ni := some 6) (Nj := some 7) #[true, true, true, true, true, true, true, true, true, true, true, true, true, false, false, false] #[true, true, true, true, true, true, true, true, true, true, true, true, false, true, false, false] rfl rfl rfl rfl (by kernel_rfl) (by decide) (by decide) (fun K hK => ?_) (fun K hK => ?_)
    · refine value_ (v := .pointer (some ⟨W2.drew.heap.size, 0, none⟩)) (w1 := W2.drew.alloc (.cells #[.int .i64 0, .slice none 0 0, .slice none 0 0] 145)) (by rfl) rfl ?_ ?_
      · go_simp
      refine hK.out _ _ ⟨pw_cell_below (below_alloc (Below.refl _ _) _) hHeld.1, pw_cell_below (below_alloc (Below.refl _ _) _) hHeld.2.1, pw_cell_below (below_alloc (Below.refl _ _) _) hHeld.2.2.1, pw_cell_below (below_alloc (Below.refl _ _) _) hHeld.2.2.2.1, pw_cell_below (below_alloc (Below.refl _ _) _) hHeld.2.2.2.2.1, pw_cell_below (below_alloc (Below.refl _ _) _) hHeld.2.2.2.2.2.1, pw_cell_below (below_alloc (Below.refl _ _) _) hHeld.2.2.2.2.2.2.1, pw_cell_below (below_alloc (Below.refl _ _) _) hHeld.2.2.2.2.2.2.2.1, pw_cell_below (below_alloc (Below.refl _ _) _) hHeld.2.2.2.2.2.2.2.2.1, pw_cell_below (below_alloc (Below.refl _ _) _) hHeld.2.2.2.2.2.2.2.2.2⟩ (fun hHeld => ?_)
      clear hK K
      refine norm_ (a' := ?_) ?_ ?_
      rotate_left
      · show Act.put _ (some 6) _ = _
        simp only [Act.put, List.setIfInBounds_toArray, List.set_cons_zero, List.set_cons_succ, i64_w, i32_w]
        rfl
      refine one_ (i := 13) (N := some 7) #[true, true, true, true, true, true, true, true, true, true, true, true, true, true, false, false] rfl rfl (by kernel_rfl) (by decide) (fun K hK => ?_)
      refine value_ (v := .pointer (some ⟨(W2.drew.alloc (.cells #[.int .i64 0, .slice none 0 0, .slice none 0 0] 145)).heap.size, 0, none⟩)) (w1 := (W2.drew.alloc (.cells #[.int .i64 0, .slice none 0 0, .slice none 0 0] 145)).alloc (.cells #[.int .i64 0, .slice none 0 0, .slice none 0 0] 145)) (by rfl) rfl ?_ ?_
      · go_simp
      refine hK.out _ _ ⟨pw_cell_below (below_alloc (Below.refl _ _) _) hHeld.1, pw_cell_below (below_alloc (Below.refl _ _) _) hHeld.2.1, pw_cell_below (below_alloc (Below.refl _ _) _) hHeld.2.2.1, pw_cell_below (below_alloc (Below.refl _ _) _) hHeld.2.2.2.1, pw_cell_below (below_alloc (Below.refl _ _) _) hHeld.2.2.2.2.1, pw_cell_below (below_alloc (Below.refl _ _) _) hHeld.2.2.2.2.2.1, pw_cell_below (below_alloc (Below.refl _ _) _) hHeld.2.2.2.2.2.2.1, pw_cell_below (below_alloc (Below.refl _ _) _) hHeld.2.2.2.2.2.2.2.1, pw_cell_below (below_alloc (Below.refl _ _) _) hHeld.2.2.2.2.2.2.2.2.1, pw_cell_below (below_alloc (Below.refl _ _) _) hHeld.2.2.2.2.2.2.2.2.2⟩ (fun hHeld => ?_)
      clear hK K
      refine norm_ (a' := ?_) ?_ ?_
      rotate_left
      · show Act.put _ (some 7) _ = _
        simp only [Act.put, List.setIfInBounds_toArray, List.set_cons_zero, List.set_cons_succ, i64_w, i32_w]
        rfl
      exact norm_ (by first | (simp only [putAll, Act.put, sA_]; done) | (simp only [putAll, Act.put, sA_]; rfl)) (hJ (W2.drew.heap.size, (W2.drew.alloc (.cells #[.int .i64 0, .slice none 0 0, .slice none 0 0] 145)).heap.size) _ ⟨blk_alloc (blk_new _ _) _, blk_new _ _, (by simp), below_alloc (below_alloc (Below.refl _ _) _) _, (Nat.le_refl _), (by simp)⟩)
    · refine value_ (v := .pointer (some ⟨W2.drew.heap.size, 0, none⟩)) (w1 := W2.drew.alloc (.cells #[.int .i64 0, .slice none 0 0, .slice none 0 0] 145)) (by rfl) rfl ?_ ?_
      · go_simp
      refine hK.out _ _ ⟨pw_cell_below (below_alloc (Below.refl _ _) _) hHeld.1, pw_cell_below (below_alloc (Below.refl _ _) _) hHeld.2.1, pw_cell_below (below_alloc (Below.refl _ _) _) hHeld.2.2.1, pw_cell_below (below_alloc (Below.refl _ _) _) hHeld.2.2.2.1, pw_cell_below (below_alloc (Below.refl _ _) _) hHeld.2.2.2.2.1, pw_cell_below (below_alloc (Below.refl _ _) _) hHeld.2.2.2.2.2.1, pw_cell_below (below_alloc (Below.refl _ _) _) hHeld.2.2.2.2.2.2.1, pw_cell_below (below_alloc (Below.refl _ _) _) hHeld.2.2.2.2.2.2.2.1, pw_cell_below (below_alloc (Below.refl _ _) _) hHeld.2.2.2.2.2.2.2.2.1, pw_cell_below (below_alloc (Below.refl _ _) _) hHeld.2.2.2.2.2.2.2.2.2⟩ (fun hHeld => ?_)
      clear hK K
      refine norm_ (a' := ?_) ?_ ?_
      rotate_left
      · show Act.put _ (some 7) _ = _
        simp only [Act.put, List.setIfInBounds_toArray, List.set_cons_zero, List.set_cons_succ, i64_w, i32_w]
        rfl
      refine one_ (i := 12) (N := some 6) #[true, true, true, true, true, true, true, true, true, true, true, true, true, true, false, false] rfl rfl (by kernel_rfl) (by decide) (fun K hK => ?_)
      refine value_ (v := .pointer (some ⟨(W2.drew.alloc (.cells #[.int .i64 0, .slice none 0 0, .slice none 0 0] 145)).heap.size, 0, none⟩)) (w1 := (W2.drew.alloc (.cells #[.int .i64 0, .slice none 0 0, .slice none 0 0] 145)).alloc (.cells #[.int .i64 0, .slice none 0 0, .slice none 0 0] 145)) (by rfl) rfl ?_ ?_
      · go_simp
      refine hK.out _ _ ⟨pw_cell_below (below_alloc (Below.refl _ _) _) hHeld.1, pw_cell_below (below_alloc (Below.refl _ _) _) hHeld.2.1, pw_cell_below (below_alloc (Below.refl _ _) _) hHeld.2.2.1, pw_cell_below (below_alloc (Below.refl _ _) _) hHeld.2.2.2.1, pw_cell_below (below_alloc (Below.refl _ _) _) hHeld.2.2.2.2.1, pw_cell_below (below_alloc (Below.refl _ _) _) hHeld.2.2.2.2.2.1, pw_cell_below (below_alloc (Below.refl _ _) _) hHeld.2.2.2.2.2.2.1, pw_cell_below (below_alloc (Below.refl _ _) _) hHeld.2.2.2.2.2.2.2.1, pw_cell_below (below_alloc (Below.refl _ _) _) hHeld.2.2.2.2.2.2.2.2.1, pw_cell_below (below_alloc (Below.refl _ _) _) hHeld.2.2.2.2.2.2.2.2.2⟩ (fun hHeld => ?_)
      clear hK K
      refine norm_ (a' := ?_) ?_ ?_
      rotate_left
      · show Act.put _ (some 6) _ = _
        simp only [Act.put, List.setIfInBounds_toArray, List.set_cons_zero, List.set_cons_succ, i64_w, i32_w]
        rfl
      exact norm_ (by first | (simp only [putAll, Act.put, sA_]; done) | (simp only [putAll, Act.put, sA_]; rfl)) (hJ ((W2.drew.alloc (.cells #[.int .i64 0, .slice none 0 0, .slice none 0 0] 145)).heap.size, W2.drew.heap.size) _ ⟨blk_new _ _, blk_alloc (blk_new _ _) _, (by simp), below_alloc (below_alloc (Below.refl _ _) _) _, (by simp), (Nat.le_refl _)⟩)
  rintro ⟨g6, g7⟩ w3 ⟨h6, h7, hne, hb3, hl6, hl7⟩
  refine norm_ (a' := ?_) ?_ ?_
  rotate_left
  · simp only [putAll, Act.put, sA_]
    rfl
  have hz60 : w3.cell? ⟨g6, 0, none⟩ = some (.int .i64 0) := (blk_cell h6 0).trans rfl
  have hz61 : w3.cell? ⟨g6, 1, none⟩ = some (.slice none 0 0) := (blk_cell h6 1).trans rfl
  have hz62 : w3.cell? ⟨g6, 2, none⟩ = some (.slice none 0 0) := (blk_cell h6 2).trans rfl
  have hf60 := blk_frozen h6 0
  have hf61 := blk_frozen h6 1
  have hf62 := blk_frozen h6 2
  refine one_ (i := 14) (N := none) #[true, true, true, true, true, true, true, true, true, true, true, true, true, true, true, false] rfl rfl (by kernel_rfl) (by decide) (fun K hK => ?_)
  have hb4 : Below W2.drew.heap.size W2.drew ((((w3).setCell ⟨g6, 0, none⟩ (.int .i64 X.f0)).setCell ⟨g6, 1, none⟩ (.slice A1 X.f1.length c1)).setCell ⟨g6, 2, none⟩ (.slice A2 X.f2.length c2)) := below_set (below_set (below_set hb3 hl6) hl6) hl6
  refine skip_ (w1 := (((w3).setCell ⟨g6, 0, none⟩ (.int .i64 X.f0)).setCell ⟨g6, 1, none⟩ (.slice A1 X.f1.length c1)).setCell ⟨g6, 2, none⟩ (.slice A2 X.f2.length c2)) (by rfl) rfl ?_ ?_
  · go_simp
  refine hK.out _ _ ⟨pw_cell_below hb4 HH0.out.1, pw_cell_below hb4 HH0.out.2.1, pw_cell_below hb4 HH0.out.2.2.1, pw_cell_below hb4 HH0.out.2.2.2.1, pw_cell_below hb4 HH0.out.2.2.2.2.1, pw_cell_below hb4 HH0.out.2.2.2.2.2.1, pw_cell_below hb4 HH0.out.2.2.2.2.2.2.1, pw_cell_below hb4 HH0.out.2.2.2.2.2.2.2.1, pw_cell_below hb4 HH0.out.2.2.2.2.2.2.2.2.1, pw_cell_below hb4 HH0.out.2.2.2.2.2.2.2.2.2⟩ (fun hHeld => ?_)
  clear hK K
  obtain ⟨w4, hw4⟩ : ∃ w4 : World, w4 = (((w3).setCell ⟨g6, 0, none⟩ (.int .i64 X.f0)).setCell ⟨g6, 1, none⟩ (.slice A1 X.f1.length c1)).setCell ⟨g6, 2, none⟩ (.slice A2 X.f2.length c2) := ⟨_, rfl⟩
  rw [← hw4]
  clear hz60 hz61 hz62 hf60 hf61 hf62
  have h64 : w4.heap[g6]? = some (.cells #[.int .i64 X.f0, .slice A1 X.f1.length c1, .slice A2 X.f2.length c2] 145 (0, 0)) := by rw [hw4]; exact blk_put (blk_put (blk_put h6 0 _ rfl) 1 _ rfl) 2 _ rfl
  have h74 : w4.heap[g7]? = some (.cells #[.int .i64 0, .slice none 0 0, .slice none 0 0] 145 (0, 0)) := by rw [hw4]; exact blk_far (blk_far (blk_far h7 (p := ⟨g6, 0, none⟩) (fun e => hne e.symm) _) (p := ⟨g6, 1, none⟩) (fun e => hne e.symm) _) (p := ⟨g6, 2, none⟩) (fun e => hne e.symm) _
  rw [← hw4] at hb4 hHeld
  clear hw4 hb3 h6 h7
  have hz70 : w4.cell? ⟨g7, 0, none⟩ = some (.int .i64 0) := (blk_cell h74 0).trans rfl
  have hz71 : w4.cell? ⟨g7, 1, none⟩ = some (.slice none 0 0) := (blk_cell h74 1).trans rfl
  have hz72 : w4.cell? ⟨g7, 2, none⟩ = some (.slice none 0 0) := (blk_cell h74 2).trans rfl
  have hf70 := blk_frozen h74 0
  have hf71 := blk_frozen h74 1
  have hf72 := blk_frozen h74 2
  refine last_ (i := 15) (N := none) #[true, true, true, true, true, true, true, true, true, true, true, true, true, true, true, true] rfl rfl (by kernel_rfl) (by decide) (fun K hK => ?_)
  refine skip_ (w1 := (((w4).setCell ⟨g7, 0, none⟩ (.int .i64 Y.f0)).setCell ⟨g7, 1, none⟩ (.slice B1 Y.f1.length d1)).setCell ⟨g7, 2, none⟩ (.slice B2 Y.f2.length d2)) (by rfl) rfl ?_ ?_
  · go_simp
  refine hK.out _ _ ?_
  clear hK K
  refine done_ (by kernel_rfl) ?_
  obtain ⟨w5, hw5⟩ : ∃ w5 : World, w5 = (((w4).setCell ⟨g7, 0, none⟩ (.int .i64 Y.f0)).setCell ⟨g7, 1, none⟩ (.slice B1 Y.f1.length d1)).setCell ⟨g7, 2, none⟩ (.slice B2 Y.f2.length d2) := ⟨_, rfl⟩
  rw [← hw5]
  clear hz70 hz71 hz72 hf70 hf71 hf72
  have h75 : w5.heap[g7]? = some (.cells #[.int .i64 Y.f0, .slice B1 Y.f1.length d1, .slice B2 Y.f2.length d2] 145 (0, 0)) := by rw [hw5]; exact blk_put (blk_put (blk_put h74 0 _ rfl) 1 _ rfl) 2 _ rfl
  have h65 : w5.heap[g6]? = some (.cells #[.int .i64 X.f0, .slice A1 X.f1.length c1, .slice A2 X.f2.length c2] 145 (0, 0)) := by rw [hw5]; exact blk_far (blk_far (blk_far h64 (p := ⟨g7, 0, none⟩) hne _) (p := ⟨g7, 1, none⟩) hne _) (p := ⟨g7, 2, none⟩) hne _
  have hb5 : Below W2.drew.heap.size W2.drew w5 := by rw [hw5]; exact below_set (below_set (below_set hb4 hl7) hl7) hl7
  clear hw5 hb4 h64 h74
  have HB5 := Aside0.mk (below_step HB2.out (below_step (below_drew1 (Below.refl _ _)) hb5))
  clear hb5
  have H65 := Aside0.mk h65
  have H75 := Aside0.mk h75
  clear h65 h75 hl6 hl7 hne
  clear p0 q0 p1 q1
  have h := H.out
  clear H
  have hz60 : w5.cell? ⟨g6, 0, none⟩ = some (.int .i64 X.f0) := (blk_cell H65.out 0).trans rfl
  have hz61 : w5.cell? ⟨g6, 1, none⟩ = some (.slice A1 X.f1.length c1) := (blk_cell H65.out 1).trans rfl
  have hz62 : w5.cell? ⟨g6, 2, none⟩ = some (.slice A2 X.f2.length c2) := (blk_cell H65.out 2).trans rfl
  have hz70 : w5.cell? ⟨g7, 0, none⟩ = some (.int .i64 Y.f0) := (blk_cell H75.out 0).trans rfl
  have hz71 : w5.cell? ⟨g7, 1, none⟩ = some (.slice B1 Y.f1.length d1) := (blk_cell H75.out 1).trans rfl
  by_cases hk : X.f0 = Y.f0
  case neg =>
    rw [if_neg hk] at h
    simp only [Option.some.injEq, Prod.mk.injEq] at h
    obtain ⟨rfl, rfl⟩ := h
    have hk0 : (X.f0 == Y.f0) = false := by simpa using hk
    have hk1 : decide (X.f0 = Y.f0) = false := decide_eq_false hk
    have hk2 : (X.f0 != Y.f0) = true := by simpa using hk
    clear hk
    go_wp2
    go_ret
    exact ⟨rfl, HP.out.keep HB5.out, FrP.of_below HB5.out⟩
  rw [if_pos hk] at h
  have hk0 : (X.f0 == Y.f0) = true := by simpa using hk
  have hk1 : decide (X.f0 = Y.f0) = true := decide_eq_true hk
  have hk2 : (X.f0 != Y.f0) = false := by simpa using hk
  clear hk
  obtain ⟨t, ht, h⟩ := Option.bind_eq_some_iff.mp h
  have HT := Aside0.mk ht
  clear ht
  cases t with
  | false =>
    have h' : some (false, o) = some (rr, o') := by simpa using h
    simp only [Option.some.injEq, Prod.mk.injEq] at h'
    obtain ⟨rfl, rfl⟩ := h'
    clear h
    go_wp2_with (first | (go_at_call 105; refine (slices_Equal_string_string.calls k A1 c1 X.f1 B1 d1 Y.f1 _ _ (Kd.C_below HC.out.1.2 (below_step HP.out.bel HB5.out)) HC.out.1.1 (Kd.C_below HD.out.1.2 (below_step HP.out.bel HB5.out)) HD.out.1.1 HT.out).mono ?_; rintro e w6 ⟨rfl, ⟨nd, rfl⟩⟩))
    go_ret
    exact ⟨rfl, HP.out.keep (pw_below_drewN HB5.out nd), FrP.of_below (pw_below_drewN HB5.out nd)⟩
  | true =>
    rw [if_pos rfl] at h
    obtain ⟨o2, ho2, h⟩ := Option.bind_eq_some_iff.mp h
    simp only [Option.some.injEq, Prod.mk.injEq] at h
    obtain ⟨rfl, rfl⟩ := h
    have H := Aside0.mk ho2
    clear ho2
    go_wp2_with (first | (go_at_call 105; refine (slices_Equal_string_string.calls k A1 c1 X.f1 B1 d1 Y.f1 _ _ (Kd.C_below HC.out.1.2 (below_step HP.out.bel HB5.out)) HC.out.1.1 (Kd.C_below HD.out.1.2 (below_step HP.out.bel HB5.out)) HD.out.1.1 HT.out).mono ?_; rintro e w6 ⟨rfl, ⟨nd, rfl⟩⟩))
    clear hz60 hz61 hz62 hz70 hz71 hk0 hk1 hk2
    go_loopg [37] k (fun kq v37 w' => ∃ (i : Nat) (o1 : List PrT), v37 = .int .i64 i ∧ Aside0 (kids_d kq X.f2 Y.f2 i o1 = some o2) ∧ Aside0 (kq ≤ k) ∧ Aside0 (PrAt w0 w' gm gp o1) ∧ Aside0 (w'.heap[g6]? = some (.cells #[.int .i64 X.f0, .slice A1 X.f1.length c1, .slice A2 X.f2.length c2] 145 (0, 0))) ∧ Aside0 (w'.heap[g7]? = some (.cells #[.int .i64 Y.f0, .slice B1 Y.f1.length d1, .slice B2 Y.f2.length d2] 145 (0, 0))) ∧ Aside0 (FrP W w'))
    case atStart => exact ⟨0, o, rfl, H, ⟨Nat.le_refl _⟩, ⟨HP.out.keep (pw_below_drewN HB5.out nd)⟩, ⟨blk_drewN H65.out nd⟩, ⟨blk_drewN H75.out nd⟩, ⟨FrP.of_below (pw_below_drewN HB5.out nd)⟩⟩
    case round =>
      clear H H65 H75 HP
      obtain ⟨i, o1, rfl, HA, HK, HP, H6, H7, HF⟩ := hrel
      cases gk with
      | zero => exact absurd HA.out (by simp [kids_d])
      | succ k1 =>
        have h := HA.out
        clear HA
        simp only [kids_d] at h
        by_cases hb : o1.length < 1099511627776 ∧ X.f2.length < 1099511627776
        case neg => rw [if_neg hb] at h; cases h
        rw [if_pos hb] at h
        have HO := Aside0.mk hb
        clear hb
        by_cases hi : i < X.f2.length
        · rw [if_pos hi] at h
          by_cases hj : i < Y.f2.length
          case neg => rw [if_neg hj] at h; cases h
          rw [if_pos hj] at h
          by_cases hw : (-9223372036854775808 ≤ rd X.f2 i ∧ rd X.f2 i ≤ 9223372036854775807) ∧ (-9223372036854775808 ≤ rd Y.f2 i ∧ rd Y.f2 i ≤ 9223372036854775807)
          case neg => rw [if_neg hw] at h; cases h
          rw [if_pos hw] at h
          have HN := Aside0.mk h
          have HQW := Aside0.mk (show PrW ⟨rd X.f2 i, rd Y.f2 i, 0⟩ from ⟨i64wf _ hw.1.1 hw.1.2, i64wf _ hw.2.1 hw.2.2, i64wf 0 (by omega) (by omega)⟩)
          obtain ⟨ax, eA, hkx⟩ := Kd.at_int HC.out.2.2 (i : Int) (by omega) (by omega)
          obtain ⟨ay, eB, hky⟩ := Kd.at_int HD.out.2.2 (i : Int) (by omega) (by omega)
          cases eA
          cases eB
          rw [Int.toNat_natCast] at hkx hky
          replace hkx := pw_cell_below HP.out.bel hkx
          replace hky := pw_cell_below HP.out.bel hky
          have HKX := Aside0.mk hkx
          have HKY := Aside0.mk hky
          have p0 : 0 ≤ (i : Int) := by omega
          have ql : decide (i < X.f2.length) = true := decide_eq_true hi
          have q0 : (i : Int) < (X.f2.length : Int) := by omega
          have q1 : (i : Int) < (Y.f2.length : Int) := by omega
          have qm : decide (i < Y.f2.length) = true := decide_eq_true hj
          have HW := Aside0.mk (show wrap64 ((i : Int) + 1) = ((i + 1 : Nat) : Int) by have := HO.out.2; unfold wrap64; omega)
          clear h hkx hky hw hi hj
          go_wp2
          refine start_ (n := 13) (S := fun w' => w'.cell? ⟨g6, 2, none⟩ = some (.slice (some ax) X.f2.length c2) ∧ w'.cell? ⟨g7, 2, none⟩ = some (.slice (some ay) Y.f2.length d2) ∧ w'.cell? (ax.add i) = some (.int .i64 (rd X.f2 i)) ∧ w'.cell? (ay.add i) = some (.int .i64 (rd Y.f2 i))) (ds := [12]) #[false, false, false, false, false, false, false, false, false, false, false, false, false] (by kernel_rfl) rfl rfl ⟨(blk_cell H6.out 2).trans rfl, (blk_cell H7.out 2).trans rfl, HKX.out, HKY.out⟩ (fun hHeld => ?_)
          refine pure_ (i := 0) (N := some 40) (v := ?_) (a' := ?_) #[true, false, false, false, false, false, false, false, false, false, false, false, false] rfl rfl (by kernel_rfl) (fun _ _ _ h => h) (Or.inl ⟨by rfl, ?_⟩) ?_ ?_
          rotate_left
          · intro w'
            go_simp
            with_reducible rfl
          rotate_left
          · simp only [Act.put, List.setIfInBounds_toArray, List.set_cons_zero, List.set_cons_succ, i64_w, i32_w]
            rfl
          refine pure_ (i := 1) (N := some 41) (v := ?_) (a' := ?_) #[true, true, false, false, false, false, false, false, false, false, false, false, false] rfl rfl (by kernel_rfl) (fun _ _ _ h => h) (Or.inl ⟨by rfl, ?_⟩) ?_ ?_
          rotate_left
          · intro w'
            go_simp
            with_reducible rfl
          rotate_left
          · simp only [Act.put, List.setIfInBounds_toArray, List.set_cons_zero, List.set_cons_succ, i64_w, i32_w]
            rfl
          refine take_ (i := 2) (N := some 42) (v := ?_) (a' := ?_) #[true, true, true, false, false, false, false, false, false, false, false, false, false] rfl rfl (by kernel_rfl) (fun _ _ _ h => h) (Or.inl ⟨by rfl, ?_⟩) hHeld ?_ ?_
          rotate_left
          · rintro w' ⟨s0, s1, s2, s3⟩
            go_simp
            with_reducible rfl
          rotate_left
          · simp only [Act.put, List.setIfInBounds_toArray, List.set_cons_zero, List.set_cons_succ, i64_w, i32_w]
            rfl
          refine pure_ (i := 3) (N := some 43) (v := ?_) (a' := ?_) #[true, true, true, true, false, false, false, false, false, false, false, false, false] rfl rfl (by kernel_rfl) (fun _ _ _ h => h) (Or.inl ⟨by rfl, ?_⟩) ?_ ?_
          rotate_left
          · intro w'
            go_simp
            with_reducible rfl
          rotate_left
          · simp only [Act.put, List.setIfInBounds_toArray, List.set_cons_zero, List.set_cons_succ, i64_w, i32_w]
            rfl
          refine pure_ (i := 4) (N := some 44) (v := ?_) (a' := ?_) #[true, true, true, true, true, false, false, false, false, false, false, false, false] rfl rfl (by kernel_rfl) (fun _ _ _ h => h) (Or.inl ⟨by rfl, ?_⟩) ?_ ?_
          rotate_left
          · intro w'
            go_simp
            with_reducible rfl
          rotate_left
          · simp only [Act.put, List.setIfInBounds_toArray, List.set_cons_zero, List.set_cons_succ, i64_w, i32_w]
            rfl
          refine take_ (i := 5) (N := some 45) (v := ?_) (a' := ?_) #[true, true, true, true, true, true, false, false, false, false, false, false, false] rfl rfl (by kernel_rfl) (fun _ _ _ h => h) (Or.inl ⟨by rfl, ?_⟩) hHeld ?_ ?_
          rotate_left
          · rintro w' ⟨s0, s1, s2, s3⟩
            go_simp
            with_reducible rfl
          rotate_left
          · simp only [Act.put, List.setIfInBounds_toArray, List.set_cons_zero, List.set_cons_succ, i64_w, i32_w]
            rfl
          refine pure_ (i := 6) (N := some 46) (v := ?_) (a' := ?_) #[true, true, true, true, true, true, true, false, false, false, false, false, false] rfl rfl (by kernel_rfl) (fun _ _ _ h => h) (Or.inl ⟨by rfl, ?_⟩) ?_ ?_
          rotate_left
          · intro w'
            go_simp
            with_reducible rfl
          rotate_left
          · simp only [Act.put, List.setIfInBounds_toArray, List.set_cons_zero, List.set_cons_succ, i64_w, i32_w]
            rfl
          refine take_ (i := 7) (N := some 47) (v := ?_) (a' := ?_) #[true, true, true, true, true, true, true, true, false, false, false, false, false] rfl rfl (by kernel_rfl) (fun _ _ _ h => h) (Or.inl ⟨by rfl, ?_⟩) hHeld ?_ ?_
          rotate_left
          · rintro w' ⟨s0, s1, s2, s3⟩
            go_simp
            with_reducible rfl
          rotate_left
          · simp only [Act.put, List.setIfInBounds_toArray, List.set_cons_zero, List.set_cons_succ, i64_w, i32_w]
            rfl
          refine pure_ (i := 8) (N := some 48) (v := ?_) (a' := ?_) #[true, true, true, true, true, true, true, true, true, false, false, false, false] rfl rfl (by kernel_rfl) (fun _ _ _ h => h) (Or.inl ⟨by rfl, ?_⟩) ?_ ?_
          rotate_left
          · intro w'
            go_simp
            with_reducible rfl
          rotate_left
          · simp only [Act.put, List.setIfInBounds_toArray, List.set_cons_zero, List.set_cons_succ, i64_w, i32_w]
            rfl
          refine pure_ (i := 9) (N := some 49) (v := ?_) (a' := ?_) #[true, true, true, true, true, true, true, true, true, true, false, false, false] rfl rfl (by kernel_rfl) (fun _ _ _ h => h) (Or.inl ⟨by rfl, ?_⟩) ?_ ?_
          rotate_left
          · intro w'
            go_simp
            with_reducible rfl
          rotate_left
          · simp only [Act.put, List.setIfInBounds_toArray, List.set_cons_zero, List.set_cons_succ, i64_w, i32_w]
            rfl
          refine take_ (i := 10) (N := some 50) (v := ?_) (a' := ?_) #[true, true, true, true, true, true, true, true, true, true, true, false, false] rfl rfl (by kernel_rfl) (fun _ _ _ h => h) (Or.inl ⟨by rfl, ?_⟩) hHeld ?_ ?_
          rotate_left
          · rintro w' ⟨s0, s1, s2, s3⟩
            go_simp
            with_reducible rfl
          rotate_left
          · simp only [Act.put, List.setIfInBounds_toArray, List.set_cons_zero, List.set_cons_succ, i64_w, i32_w]
            rfl
          refine pure_ (i := 11) (N := some 51) (v := ?_) (a' := ?_) #[true, true, true, true, true, true, true, true, true, true, true, true, false] rfl rfl (by kernel_rfl) (fun _ _ _ h => h) (Or.inl ⟨by rfl, ?_⟩) ?_ ?_
          rotate_left
          · intro w'
            go_simp
            with_reducible rfl
          rotate_left
          · simp only [Act.put, List.setIfInBounds_toArray, List.set_cons_zero, List.set_cons_succ, i64_w, i32_w]
            rfl
          refine last_ (i := 12) (N := some 52) #[true, true, true, true, true, true, true, true, true, true, true, true, true] rfl rfl (by kernel_rfl) (by decide) (fun K hK => ?_)
          refine callvP_ #[.pointer (some ⟨gm, 0, none⟩)] Tryd.func139 rfl rfl #[.agg #[.int .i64 (rd X.f2 i), .int .i64 (rd Y.f2 i), .int .i64 0], .pointer (some ⟨gm, 0, none⟩)] rfl rfl rfl rfl (by (try simp only [List.map_toArray, List.map_cons, List.map_nil, List.append_toArray, List.append_nil, List.nil_append, List.cons_append]); rfl) ?_
          refine (demand_calls w0 gm gp o1 ⟨rd X.f2 i, rd Y.f2 i, 0⟩ _ (HP.out.keep (below_drew1 (Below.refl _ _))) HQW.out HO.out.1).mono ?_
          rintro e w8 ⟨rfl, hP8, hF8⟩
          refine ⟨_, rfl, ?_⟩
          refine hK.out _ _ ?_
          clear hK K
          refine norm_ (a' := ?_) ?_ ?_
          rotate_left
          · show Act.put _ (some 52) _ = _
            simp only [Act.put, List.setIfInBounds_toArray, List.set_cons_zero, List.set_cons_succ, i64_w, i32_w]
            rfl
          refine done_ (by kernel_rfl) ?_
          have HP8 := Aside0.mk hP8
          have HF8 := Aside0.mk hF8
          clear hP8 hF8
          go_wp2
          rw [HW.out]
          go_roundg k1
          case measure => have := HK.out; omega
          case rel => exact ⟨i + 1, _, rfl, HN, ⟨by have := HK.out; omega⟩, HP8, ⟨HF8.out.bl _ _ _ (blk_drew H6.out) (by decide) (by decide)⟩, ⟨HF8.out.bl _ _ _ (blk_drew H7.out) (by decide) (by decide)⟩, ⟨FrP.trans HF.out (FrP.trans (FrP.of_below (below_drew1 (Below.refl _ _))) HF8.out)⟩⟩
        · rw [if_neg hi] at h
          obtain rfl := Option.some.inj h
          have ql : decide (i < X.f2.length) = false := decide_eq_false hi
          clear h hi
          go_wp2
          go_ret
          exact ⟨rfl, HP.out, HF.out⟩
def impl_Same.f (k : Nat) (l0 : List NdT) (a b : Int) : Option Bool := (impl_Graph_has.f k l0 [a, b]).bind fun t => (if t = true then (if (-9223372036854775808 ≤ a ∧ a ≤ 9223372036854775807) ∧ (-9223372036854775808 ≤ b ∧ b ≤ 9223372036854775807) then all_l (same_st l0) k [⟨a, b, 0⟩] 0 else none) else some false)
set_option maxHeartbeats 16000000 in
set_option maxRecDepth 100000 in
theorem impl_Same.calls (k : Nat) (A0_0 : Option Addr) (c0_0 : Nat) (l0_0 : List NdT) (a1 a2 : Int) (r : Bool) (w : World) (hG : GRes w) (hr0_0 : Kd.C k145 w A0_0 l0_0.length l0_0) (hc0_0 : l0_0.length ≤ c0_0) (h : impl_Same.f k l0_0 a1 a2 = some r) :
    Calls Tryd.prog 48 #[.agg #[.slice A0_0 l0_0.length c0_0], .int .i64 a1, .int .i64 a2] w fun e w' => e = .returned (.bool r) ∧ Below w.heap.size w w' := by
  have hu1 := Tryd.underlying76
  have hu2 := Tryd.underlying141
  have hmf : ∀ (fn : Fn) (first cap : Array Value) (w : World), (Instr.makeFunc fn first cap).run Tryd.prog w = .ok (.func fn first cap) w := fun _ _ _ _ => rfl
  unfold impl_Same.f at h
  obtain ⟨t, ht, h⟩ := Option.bind_eq_some_iff.mp h
  have HT := Aside0.mk ht
  have HG := Aside0.mk hG
  have HR := Aside0.mk hr0_0
  have HCC := Aside0.mk hc0_0
  clear ht hG hr0_0 hc0_0
  cases t with
  | false =>
    have h' : false = r := by simpa using h
    subst h'
    clear h
    go_enter Tryd.func48, Tryd.ntmps48
    go_wp2_with (first | ((with_reducible refine gate_dst (N := 10) rfl ?_); refine Kd.R_lit (Kd.int .i64) (w0 := w) w.heap.size 3 ?hg (N := 10) ?hd (xs := ([a1, a2] : List Int)) (inner := [.int .i64 a1, .int .i64 a2]) (ok := fun _ => True) (okp := fun _ => True) ?hr ?hp (fun _ hk => hk) trivial (by repeat (first | exact Below.refl _ _ | apply below_alloc)) (by simp) (by simp) ?_; (case hd => rfl); (case hg => rfl); (case hr => first | (go_simp; done) | (go_simp; rfl)); (case hp => exact (Reps.one (show Kd.M (Kd.int .i64) _ _ _ a1 [.int .i64 a1] from rfl) (Reps.one (show Kd.M (Kd.int .i64) _ _ _ a2 [.int .i64 a2] from rfl) (Reps.none _ _)))); intro v7 w7 ho7 hb7 hg7 _; obtain ⟨A7, c7, rfl⟩ := Kd.R_slice ho7; have HO7 := Aside0.mk ho7; have HB7 := Aside0.mk hb7; have HG7 := Aside0.mk (blk_grown (blk_new w (.cells #[.slice A0_0 l0_0.length c0_0] 76)) hg7 (by simp)); have hz7 : w7.cell? ⟨w.heap.size, 0, none⟩ = some (.slice A0_0 l0_0.length c0_0) := (blk_cell HG7.out 0).trans rfl; clear ho7 hb7 hg7) | (go_at_call 102; refine (impl_Graph_has.calls k A0_0 c0_0 l0_0 A7 c7 [a1, a2] _ _ (GRes.below HG.out HB7.out) (Kd.C_below HR.out HB7.out) HCC.out (Kd.R_reads' HO7.out).2.2 (Kd.R_reads' HO7.out).2.1 HT.out).mono ?_; rintro e w8 ⟨rfl, hb8⟩; have HB8 := Aside0.mk (below_step HB7.out hb8); have HG8 := Aside0.mk (blk_below HG7.out hb8); have hz8 : w8.cell? ⟨w.heap.size, 0, none⟩ = some (.slice A0_0 l0_0.length c0_0) := (blk_cell HG8.out 0).trans rfl; clear hb8))
    go_ret
    exact ⟨rfl, HB8.out⟩
  | true =>
    rw [if_pos rfl] at h
    by_cases hw : (-9223372036854775808 ≤ a1 ∧ a1 ≤ 9223372036854775807) ∧ (-9223372036854775808 ≤ a2 ∧ a2 ≤ 9223372036854775807)
    case neg => rw [if_neg hw] at h; cases h
    rw [if_pos hw] at h
    have HA := Aside0.mk h
    have HQW := Aside0.mk (show PrW ⟨a1, a2, 0⟩ from ⟨i64wf _ hw.1.1 hw.1.2, i64wf _ hw.2.1 hw.2.2, i64wf 0 (by omega) (by omega)⟩)
    clear h hw
    go_enter Tryd.func48, Tryd.ntmps48
    go_wp2_with (first | ((with_reducible refine gate_dst (N := 10) rfl ?_); refine Kd.R_lit (Kd.int .i64) (w0 := w) w.heap.size 3 ?hg (N := 10) ?hd (xs := ([a1, a2] : List Int)) (inner := [.int .i64 a1, .int .i64 a2]) (ok := fun _ => True) (okp := fun _ => True) ?hr ?hp (fun _ hk => hk) trivial (by repeat (first | exact Below.refl _ _ | apply below_alloc)) (by simp) (by simp) ?_; (case hd => rfl); (case hg => rfl); (case hr => first | (go_simp; done) | (go_simp; rfl)); (case hp => exact (Reps.one (show Kd.M (Kd.int .i64) _ _ _ a1 [.int .i64 a1] from rfl) (Reps.one (show Kd.M (Kd.int .i64) _ _ _ a2 [.int .i64 a2] from rfl) (Reps.none _ _)))); intro v7 w7 ho7 hb7 hg7 _; obtain ⟨A7, c7, rfl⟩ := Kd.R_slice ho7; have HO7 := Aside0.mk ho7; have HB7 := Aside0.mk hb7; have HG7 := Aside0.mk (blk_grown (blk_new w (.cells #[.slice A0_0 l0_0.length c0_0] 76)) hg7 (by simp)); have hz7 : w7.cell? ⟨w.heap.size, 0, none⟩ = some (.slice A0_0 l0_0.length c0_0) := (blk_cell HG7.out 0).trans rfl; clear ho7 hb7 hg7) | (go_at_call 102; refine (impl_Graph_has.calls k A0_0 c0_0 l0_0 A7 c7 [a1, a2] _ _ (GRes.below HG.out HB7.out) (Kd.C_below HR.out HB7.out) HCC.out (Kd.R_reads' HO7.out).2.2 (Kd.R_reads' HO7.out).2.1 HT.out).mono ?_; rintro e w8 ⟨rfl, hb8⟩; have HB8 := Aside0.mk (below_step HB7.out hb8); have HG8 := Aside0.mk (blk_below HG7.out hb8); have hz8 : w8.cell? ⟨w.heap.size, 0, none⟩ = some (.slice A0_0 l0_0.length c0_0) := (blk_cell HG8.out 0).trans rfl; clear hb8) | (go_at_call 103; refine (all_calls (same_st l0_0) 104 Tryd.f104 Tryd.func104 rfl rfl #[.pointer (some ⟨w.heap.size, 0, none⟩)] (fun W => W.heap[w.heap.size]? = some (.cells #[.slice A0_0 l0_0.length c0_0] 76 (0, 0))) (fun W W' hF hI => hF.bl _ _ _ hI (by decide) (by decide)) k A0_0 l0_0.length c0_0 ⟨a1, a2, 0⟩ HQW.out r _ HG8.out (fun k' W gm gp o o' q rr hP hI _ _ hs => same_step k' w.heap.size A0_0 c0_0 l0_0 w8 (Kd.C_below HR.out HB8.out) W gm gp o o' q rr hP hI hs) HA.out).mono ?_; rintro e w9 ⟨rfl, hb9⟩; have HB9 := Aside0.mk (below_step HB8.out hb9); clear hb9))
    go_ret
    exact ⟨rfl, HB9.out⟩
end Go.Proofs.YtnbohlcibgfjaaaDoor.Gp
end
section
namespace Go.Proofs.YtnbohlcibgfjaaaDoor.Gp
open Go.RowKit Go.Proofs.YtnbohlcibgfjaaaDoorW.PrintWords Go.Proofs.YtnbohlcibgfjaaaDoorW.PrintLast Go.Proofs.YtnbohlcibgfjaaaDoorW.PrintMore
set_option linter.unusedVariables false
set_option linter.unusedSimpArgs false
def laws_eqStringS.l0 : Nat → List ByteArray → List ByteArray → Int → Option (Bool)
  | 0, _, _, _ => none
  | k + 1, x0, x1, x5 => if x5 < (x0.length : Int) then (if 0 ≤ x5 then (if x5 < (x1.length : Int) then (if (rdOf ByteArray.empty x0 x5).toList = (rdOf ByteArray.empty x1 x5).toList then (laws_eqStringS.l0 k x0 x1 (wrap64 (x5 + 1))) else (some false)) else (none)) else (none)) else (some true)
def laws_eqStringS.f (k : Nat) (l0 : List ByteArray) (l1 : List ByteArray) : Option (Bool) := if (l0.length : Int) = (l1.length : Int) then (laws_eqStringS.l0 k l0 l1 0) else (some false)
set_option maxHeartbeats 8000000 in
set_option maxRecDepth 100000 in
theorem laws_eqStringS.calls (k : Nat) (A0 : Option Addr) (c0 : Nat) (l0 : List ByteArray) (A1 : Option Addr) (c1 : Nat) (l1 : List ByteArray) (r : Bool) (w : World) (hr0 : Kd.C Kd.string w A0 l0.length l0) (hc0 : l0.length ≤ c0) (hr1 : Kd.C Kd.string w A1 l1.length l1) (hc1 : l1.length ≤ c1) (h : laws_eqStringS.f k l0 l1 = some r) :
    Calls Tryd.prog 164 #[.slice A0 l0.length c0, .slice A1 l1.length c1] w fun e w' => e = .returned (.bool r) ∧ Drawn0 w w' := by
  have HR0 := Aside0.mk hr0
  have HC0 := Aside0.mk hc0
  clear hr0 hc0
  have HR1 := Aside0.mk hr1
  have HC1 := Aside0.mk hc1
  clear hr1 hc1
  have H : (if (l0.length : Int) = (l1.length : Int) then (laws_eqStringS.l0 k l0 l1 0) else (some false)) = some r := h
  clear h
  by_cases c3 : (l0.length : Int) = (l1.length : Int)
  · rw [if_pos c3] at H
    have c3b0 : ((l0.length : Int) == (l1.length : Int)) = true := beq_iff_eq.mpr c3
    have c3b1 : ((l0.length : Int) != (l1.length : Int)) = false := bne_eq_false_iff_eq.mpr c3
    have c3b2 : (l0.length == l1.length) = true := by first | simpa using c3 | (simp at c3 ⊢; omega)
    clear c3
    have H' := Aside0.mk H
    clear H
    go_enter Tryd.func164, Tryd.ntmps164
    go_wp2
    repeat (go_quiet (fail); try go_wp2)
    go_loopg [5] k (fun kq v5 w' => ∃ (x5_1 : Int), v5 = .int .i64 x5_1 ∧ Aside0 (laws_eqStringS.l0 kq l0 l1 x5_1 = some r) ∧ Aside0 (kq ≤ k) ∧ Drawn0 w w')
    case atStart => exact ⟨(0), (by first | rfl | (simp; done) | (simp [*]; done)), H', ⟨Nat.le_refl _⟩, by repeat (first | exact Drawn0.refl _ | apply Drawn0.step)⟩
    case round =>
      clear H'
      try clear c1
      try clear p2
      try clear c3
      try clear c3b0
      try clear c3b1
      try clear c3b2
      obtain ⟨x5_1, rfl, HA, HK1, ⟨m1, rfl⟩⟩ := hrel
      cases gk with
      | zero => exact absurd HA.out (by simp [laws_eqStringS.l0])
      | succ k1 =>
        have H := HA.out
        clear HA
        simp only [laws_eqStringS.l0] at H
        by_cases c4 : x5_1 < (l0.length : Int)
        · rw [if_pos c4] at H
          have c4b0 : decide (x5_1 < (l0.length : Int)) = true := decide_eq_true c4
          clear c4
          by_cases c5 : 0 ≤ x5_1
          · rw [if_pos c5] at H
            have c5b0 : decide (0 ≤ x5_1) = true := decide_eq_true c5
            clear c5
            by_cases c6 : x5_1 < (l1.length : Int)
            · rw [if_pos c6] at H
              have c6b0 : decide (x5_1 < (l1.length : Int)) = true := decide_eq_true c6
              clear c6
              by_cases c7 : (rdOf ByteArray.empty l0 x5_1).toList = (rdOf ByteArray.empty l1 x5_1).toList
              · rw [if_pos c7] at H
                have c7b0 : ((rdOf ByteArray.empty l0 x5_1).toList == (rdOf ByteArray.empty l1 x5_1).toList) = true := beq_iff_eq.mpr c7
                have c7b1 : ((rdOf ByteArray.empty l0 x5_1).toList != (rdOf ByteArray.empty l1 x5_1).toList) = false := bne_eq_false_iff_eq.mpr c7
                clear c7
                have H' := Aside0.mk H
                clear H
                have p212 : 0 ≤ (x5_1 : Int) := of_decide_eq_true (by first | (with_reducible assumption) | assumption)
                have q212 : x5_1 < (l0.length : Int) := of_decide_eq_true (by first | (with_reducible assumption) | assumption)
                obtain ⟨ad212, e212, hx212_0⟩ := Kd.at_string HR0.out x5_1 p212 q212
                cases e212
                replace p212 := eq_true p212
                replace q212 := eq_true q212
                have p213 : 0 ≤ (x5_1 : Int) := of_decide_eq_true (by first | (with_reducible assumption) | assumption)
                have q213 : x5_1 < (l1.length : Int) := of_decide_eq_true (by first | (with_reducible assumption) | assumption)
                obtain ⟨ad213, e213, hx213_0⟩ := Kd.at_string HR1.out x5_1 p213 q213
                cases e213
                replace p213 := eq_true p213
                replace q213 := eq_true q213
                go_wp2
                repeat (go_quiet (fail); try go_wp2)
                go_roundg k1
                case measure => have := HK1.out; omega
                case rel => exact ⟨(wrap64 (x5_1 + 1)), (by first | rfl | (simp; done) | (simp [*]; done)), H', ⟨by have := HK1.out; omega⟩, by repeat (first | exact Drawn0.refl _ | apply Drawn0.step)⟩
              · rw [if_neg c7] at H
                have c7b0 : ((rdOf ByteArray.empty l0 x5_1).toList == (rdOf ByteArray.empty l1 x5_1).toList) = false := beq_eq_false_iff_ne.mpr c7
                have c7b1 : ((rdOf ByteArray.empty l0 x5_1).toList != (rdOf ByteArray.empty l1 x5_1).toList) = true := bne_iff_ne.mpr c7
                obtain rfl := Option.some.inj H
                have p212 : 0 ≤ (x5_1 : Int) := of_decide_eq_true (by first | (with_reducible assumption) | assumption)
                have q212 : x5_1 < (l0.length : Int) := of_decide_eq_true (by first | (with_reducible assumption) | assumption)
                obtain ⟨ad212, e212, hx212_0⟩ := Kd.at_string HR0.out x5_1 p212 q212
                cases e212
                replace p212 := eq_true p212
                replace q212 := eq_true q212
                have p213 : 0 ≤ (x5_1 : Int) := of_decide_eq_true (by first | (with_reducible assumption) | assumption)
                have q213 : x5_1 < (l1.length : Int) := of_decide_eq_true (by first | (with_reducible assumption) | assumption)
                obtain ⟨ad213, e213, hx213_0⟩ := Kd.at_string HR1.out x5_1 p213 q213
                cases e213
                replace p213 := eq_true p213
                replace q213 := eq_true q213
                go_wp2
                repeat (go_quiet (fail); try go_wp2)
                go_ret
                exact ⟨by first | rfl | (simp; done) | (simp [*]; done), by repeat (first | exact Drawn0.refl _ | apply Drawn0.step)⟩
            · rw [if_neg c6] at H
              exact absurd H (by simp)
          · rw [if_neg c5] at H
            exact absurd H (by simp)
        · rw [if_neg c4] at H
          have c4b0 : decide (x5_1 < (l0.length : Int)) = false := decide_eq_false c4
          clear c4
          obtain rfl := Option.some.inj H
          go_wp2
          repeat (go_quiet (fail); try go_wp2)
          go_ret
          exact ⟨by first | rfl | (simp; done) | (simp [*]; done), by repeat (first | exact Drawn0.refl _ | apply Drawn0.step)⟩
  · rw [if_neg c3] at H
    have c3b0 : ((l0.length : Int) == (l1.length : Int)) = false := beq_eq_false_iff_ne.mpr c3
    have c3b1 : ((l0.length : Int) != (l1.length : Int)) = true := bne_iff_ne.mpr c3
    have c3b2 : (l0.length == l1.length) = false := by first | simpa using c3 | (simp at c3 ⊢; omega)
    obtain rfl := Option.some.inj H
    go_enter Tryd.func164, Tryd.ntmps164
    go_wp2
    repeat (go_quiet (fail); try go_wp2)
    go_ret
    exact ⟨by first | rfl | (simp; done) | (simp [*]; done), by repeat (first | exact Drawn0.refl _ | apply Drawn0.step)⟩
def laws_eqIntS.l0 : Nat → List Int → List Int → Int → Option (Bool)
  | 0, _, _, _ => none
  | k + 1, x0, x1, x5 => if x5 < (x0.length : Int) then (if 0 ≤ x5 then (if x5 < (x1.length : Int) then (if (rd x0 x5) = (rd x1 x5) then (laws_eqIntS.l0 k x0 x1 (wrap64 (x5 + 1))) else (some false)) else (none)) else (none)) else (some true)
def laws_eqIntS.f (k : Nat) (l0 : List Int) (l1 : List Int) : Option (Bool) := if (l0.length : Int) = (l1.length : Int) then (laws_eqIntS.l0 k l0 l1 0) else (some false)
set_option maxHeartbeats 8000000 in
set_option maxRecDepth 100000 in
theorem laws_eqIntS.calls (k : Nat) (A0 : Option Addr) (c0 : Nat) (l0 : List Int) (A1 : Option Addr) (c1 : Nat) (l1 : List Int) (r : Bool) (w : World) (hr0 : Kd.C (Kd.int .i64) w A0 l0.length l0) (hc0 : l0.length ≤ c0) (hr1 : Kd.C (Kd.int .i64) w A1 l1.length l1) (hc1 : l1.length ≤ c1) (h : laws_eqIntS.f k l0 l1 = some r) :
    Calls Tryd.prog 165 #[.slice A0 l0.length c0, .slice A1 l1.length c1] w fun e w' => e = .returned (.bool r) ∧ Drawn0 w w' := by
  have HR0 := Aside0.mk hr0
  have HC0 := Aside0.mk hc0
  clear hr0 hc0
  have HR1 := Aside0.mk hr1
  have HC1 := Aside0.mk hc1
  clear hr1 hc1
  have H : (if (l0.length : Int) = (l1.length : Int) then (laws_eqIntS.l0 k l0 l1 0) else (some false)) = some r := h
  clear h
  by_cases c3 : (l0.length : Int) = (l1.length : Int)
  · rw [if_pos c3] at H
    have c3b0 : ((l0.length : Int) == (l1.length : Int)) = true := beq_iff_eq.mpr c3
    have c3b1 : ((l0.length : Int) != (l1.length : Int)) = false := bne_eq_false_iff_eq.mpr c3
    have c3b2 : (l0.length == l1.length) = true := by first | simpa using c3 | (simp at c3 ⊢; omega)
    clear c3
    have H' := Aside0.mk H
    clear H
    go_enter Tryd.func165, Tryd.ntmps165
    go_wp2
    repeat (go_quiet (fail); try go_wp2)
    go_loopg [5] k (fun kq v5 w' => ∃ (x5_1 : Int), v5 = .int .i64 x5_1 ∧ Aside0 (laws_eqIntS.l0 kq l0 l1 x5_1 = some r) ∧ Aside0 (kq ≤ k) ∧ Drawn0 w w')
    case atStart => exact ⟨(0), (by first | rfl | (simp; done) | (simp [*]; done)), H', ⟨Nat.le_refl _⟩, by repeat (first | exact Drawn0.refl _ | apply Drawn0.step)⟩
    case round =>
      clear H'
      try clear c1
      try clear p2
      try clear c3
      try clear c3b0
      try clear c3b1
      try clear c3b2
      obtain ⟨x5_1, rfl, HA, HK1, ⟨m1, rfl⟩⟩ := hrel
      cases gk with
      | zero => exact absurd HA.out (by simp [laws_eqIntS.l0])
      | succ k1 =>
        have H := HA.out
        clear HA
        simp only [laws_eqIntS.l0] at H
        by_cases c4 : x5_1 < (l0.length : Int)
        · rw [if_pos c4] at H
          have c4b0 : decide (x5_1 < (l0.length : Int)) = true := decide_eq_true c4
          clear c4
          by_cases c5 : 0 ≤ x5_1
          · rw [if_pos c5] at H
            have c5b0 : decide (0 ≤ x5_1) = true := decide_eq_true c5
            clear c5
            by_cases c6 : x5_1 < (l1.length : Int)
            · rw [if_pos c6] at H
              have c6b0 : decide (x5_1 < (l1.length : Int)) = true := decide_eq_true c6
              clear c6
              by_cases c7 : (rd l0 x5_1) = (rd l1 x5_1)
              · rw [if_pos c7] at H
                have c7b0 : ((rd l0 x5_1) == (rd l1 x5_1)) = true := beq_iff_eq.mpr c7
                have c7b1 : ((rd l0 x5_1) != (rd l1 x5_1)) = false := bne_eq_false_iff_eq.mpr c7
                clear c7
                have H' := Aside0.mk H
                clear H
                have p214 : 0 ≤ (x5_1 : Int) := of_decide_eq_true (by first | (with_reducible assumption) | assumption)
                have q214 : x5_1 < (l0.length : Int) := of_decide_eq_true (by first | (with_reducible assumption) | assumption)
                obtain ⟨ad214, e214, hx214_0⟩ := Kd.at_int HR0.out x5_1 p214 q214
                cases e214
                replace p214 := eq_true p214
                replace q214 := eq_true q214
                have p215 : 0 ≤ (x5_1 : Int) := of_decide_eq_true (by first | (with_reducible assumption) | assumption)
                have q215 : x5_1 < (l1.length : Int) := of_decide_eq_true (by first | (with_reducible assumption) | assumption)
                obtain ⟨ad215, e215, hx215_0⟩ := Kd.at_int HR1.out x5_1 p215 q215
                cases e215
                replace p215 := eq_true p215
                replace q215 := eq_true q215
                go_wp2
                repeat (go_quiet (fail); try go_wp2)
                go_roundg k1
                case measure => have := HK1.out; omega
                case rel => exact ⟨(wrap64 (x5_1 + 1)), (by first | rfl | (simp; done) | (simp [*]; done)), H', ⟨by have := HK1.out; omega⟩, by repeat (first | exact Drawn0.refl _ | apply Drawn0.step)⟩
              · rw [if_neg c7] at H
                have c7b0 : ((rd l0 x5_1) == (rd l1 x5_1)) = false := beq_eq_false_iff_ne.mpr c7
                have c7b1 : ((rd l0 x5_1) != (rd l1 x5_1)) = true := bne_iff_ne.mpr c7
                obtain rfl := Option.some.inj H
                have p214 : 0 ≤ (x5_1 : Int) := of_decide_eq_true (by first | (with_reducible assumption) | assumption)
                have q214 : x5_1 < (l0.length : Int) := of_decide_eq_true (by first | (with_reducible assumption) | assumption)
                obtain ⟨ad214, e214, hx214_0⟩ := Kd.at_int HR0.out x5_1 p214 q214
                cases e214
                replace p214 := eq_true p214
                replace q214 := eq_true q214
                have p215 : 0 ≤ (x5_1 : Int) := of_decide_eq_true (by first | (with_reducible assumption) | assumption)
                have q215 : x5_1 < (l1.length : Int) := of_decide_eq_true (by first | (with_reducible assumption) | assumption)
                obtain ⟨ad215, e215, hx215_0⟩ := Kd.at_int HR1.out x5_1 p215 q215
                cases e215
                replace p215 := eq_true p215
                replace q215 := eq_true q215
                go_wp2
                repeat (go_quiet (fail); try go_wp2)
                go_ret
                exact ⟨by first | rfl | (simp; done) | (simp [*]; done), by repeat (first | exact Drawn0.refl _ | apply Drawn0.step)⟩
            · rw [if_neg c6] at H
              exact absurd H (by simp)
          · rw [if_neg c5] at H
            exact absurd H (by simp)
        · rw [if_neg c4] at H
          have c4b0 : decide (x5_1 < (l0.length : Int)) = false := decide_eq_false c4
          clear c4
          obtain rfl := Option.some.inj H
          go_wp2
          repeat (go_quiet (fail); try go_wp2)
          go_ret
          exact ⟨by first | rfl | (simp; done) | (simp [*]; done), by repeat (first | exact Drawn0.refl _ | apply Drawn0.step)⟩
  · rw [if_neg c3] at H
    have c3b0 : ((l0.length : Int) == (l1.length : Int)) = false := beq_eq_false_iff_ne.mpr c3
    have c3b1 : ((l0.length : Int) != (l1.length : Int)) = true := bne_iff_ne.mpr c3
    have c3b2 : (l0.length == l1.length) = false := by first | simpa using c3 | (simp at c3 ⊢; omega)
    obtain rfl := Option.some.inj H
    go_enter Tryd.func165, Tryd.ntmps165
    go_wp2
    repeat (go_quiet (fail); try go_wp2)
    go_ret
    exact ⟨by first | rfl | (simp; done) | (simp [*]; done), by repeat (first | exact Drawn0.refl _ | apply Drawn0.step)⟩
def laws_eqNode.f (k : Nat) (a0_0 : Int) (l0_1 : List ByteArray) (l0_2 : List Int) (a1_0 : Int) (l1_1 : List ByteArray) (l1_2 : List Int) : Option (Bool) := if a0_0 = a1_0 then ((laws_eqStringS.f k l0_1 l1_1).bind fun t218 => (if t218 = true then ((laws_eqIntS.f k l0_2 l1_2).bind fun t219 => (if t219 = true then (some true) else (some false))) else (some false))) else (some false)
set_option maxHeartbeats 8000000 in
set_option maxRecDepth 100000 in
theorem laws_eqNode.calls (k : Nat) (a0_0 : Int) (A0_1 : Option Addr) (c0_1 : Nat) (l0_1 : List ByteArray) (A0_2 : Option Addr) (c0_2 : Nat) (l0_2 : List Int) (a1_0 : Int) (A1_1 : Option Addr) (c1_1 : Nat) (l1_1 : List ByteArray) (A1_2 : Option Addr) (c1_2 : Nat) (l1_2 : List Int) (r : Bool) (w : World) (hr0_1 : Kd.C Kd.string w A0_1 l0_1.length l0_1) (hc0_1 : l0_1.length ≤ c0_1) (hr0_2 : Kd.C (Kd.int .i64) w A0_2 l0_2.length l0_2) (hc0_2 : l0_2.length ≤ c0_2) (hr1_1 : Kd.C Kd.string w A1_1 l1_1.length l1_1) (hc1_1 : l1_1.length ≤ c1_1) (hr1_2 : Kd.C (Kd.int .i64) w A1_2 l1_2.length l1_2) (hc1_2 : l1_2.length ≤ c1_2) (h : laws_eqNode.f k a0_0 l0_1 l0_2 a1_0 l1_1 l1_2 = some r) :
    Calls Tryd.prog 142 #[.agg #[.int .i64 a0_0, .slice A0_1 l0_1.length c0_1, .slice A0_2 l0_2.length c0_2], .agg #[.int .i64 a1_0, .slice A1_1 l1_1.length c1_1, .slice A1_2 l1_2.length c1_2]] w fun e w' => e = .returned (.bool r) ∧ Below w.heap.size w w' := by
  have hu145 := Tryd.underlying145
  have HR0_1 := Aside0.mk hr0_1
  have HC0_1 := Aside0.mk hc0_1
  clear hr0_1 hc0_1
  have HR0_2 := Aside0.mk hr0_2
  have HC0_2 := Aside0.mk hc0_2
  clear hr0_2 hc0_2
  have HR1_1 := Aside0.mk hr1_1
  have HC1_1 := Aside0.mk hc1_1
  clear hr1_1 hc1_1
  have HR1_2 := Aside0.mk hr1_2
  have HC1_2 := Aside0.mk hc1_2
  clear hr1_2 hc1_2
  have HB := Aside0.mk (Below.refl w.heap.size w)
  have H : (if a0_0 = a1_0 then ((laws_eqStringS.f k l0_1 l1_1).bind fun t218 => (if t218 = true then ((laws_eqIntS.f k l0_2 l1_2).bind fun t219 => (if t219 = true then (some true) else (some false))) else (some false))) else (some false)) = some r := h
  clear h
  have HL3 := Aside0.mk H
  clear H
  go_enter Tryd.func142, Tryd.ntmps142
  go_upto_if 9 with (first | ((with_reducible refine gate_dst (N := 2) rfl ?_); refine box_event ?hg (N := 2) ?hd (cs := #[.int .i64 a0_0, .slice A0_1 l0_1.length c0_1, .slice A0_2 l0_2.length c0_2]) (t := 145) ?hr ?_; (case hd => rfl); (case hg => rfl); (case hr => first | (go_simp; done) | (go_simp; rfl)); intro gb216 hg w4 hbox hb; have hb1_ := fromP HB.out hb (by repeat (first | (with_reducible exact Below.refl _ _) | apply below_alloc | apply pw_below_drewN | apply below_drew1)); have hb0_ := below_step hb1_ hb; have hW_ := below_step HB.out hb1_; have n1_ := Aside0.mk (hbox); have n2_ := Aside0.mk ((by rw [hg]; exact (below_size hW_) : w.heap.size ≤ gb216)); have n3_ := Aside0.mk ((by rw [hg]; exact (below_size hW_) : w.heap.size ≤ gb216)); replace HB := kH HB hb0_; have BK216 := n1_; have GW216 := n2_; have GE216 := n3_; clear hb1_ hb0_ hW_ n1_ n2_ n3_; clear hb hbox hg) | ((with_reducible refine gate_dst (N := 3) rfl ?_); refine box_event ?hg (N := 3) ?hd (cs := #[.int .i64 a1_0, .slice A1_1 l1_1.length c1_1, .slice A1_2 l1_2.length c1_2]) (t := 145) ?hr ?_; (case hd => rfl); (case hg => rfl); (case hr => first | (go_simp; done) | (go_simp; rfl)); intro gb217 hg w5 hbox hb; have hb1_ := fromP HB.out hb (by repeat (first | (with_reducible exact Below.refl _ _) | apply below_alloc | apply pw_below_drewN | apply below_drew1)); have hb0_ := below_step hb1_ hb; have hW_ := below_step HB.out hb1_; have n2_ := Aside0.mk (hbox); have n3_ := Aside0.mk ((by rw [hg]; exact (below_size hW_) : w.heap.size ≤ gb217)); have n4_ := Aside0.mk ((by rw [hg]; exact (below_size hW_) : w.heap.size ≤ gb217)); have n5_ := Aside0.mk ((by rw [hg]; exact Nat.ne_of_lt (blk_lt (blk_below BK216.out hb1_)) : gb216 ≠ gb217)); have n6_ := Aside0.mk ((by rw [hg]; exact Nat.ne_of_gt (blk_lt (blk_below BK216.out hb1_)) : gb217 ≠ gb216)); replace BK216 := kB BK216 hb0_; replace HB := kH HB hb0_; have BK217 := n2_; have GW217 := n3_; have GE217 := n4_; have NB216_217 := n5_; have NB217_216 := n6_; clear hb1_ hb0_ hW_ n2_ n3_ n4_ n5_ n6_; clear hb hbox hg; have hnb6 := NB216_217.out; have hnc6 := NB217_216.out; obtain ⟨hcz7_0, hcz7_1, hcz7_2, hfz7_0, hfz7_1, hfz7_2⟩ := bkA3 BK216.out; obtain ⟨hcz8_0, hcz8_1, hcz8_2, hfz8_0, hfz8_1, hfz8_2⟩ := bkA3 BK217.out))
  have H := HL3.out
  clear HL3
  by_cases c9 : a0_0 = a1_0
  · rw [if_pos c9] at H
    have c9b0 : (a0_0 == a1_0) = true := beq_iff_eq.mpr c9
    have c9b1 : (a0_0 != a1_0) = false := bne_eq_false_iff_eq.mpr c9
    clear c9
    (first | rw [c9b0] | (simp only [i64_w, i32_w]; rw [c9b0]) | simp only [c9b2, Bool.not_false, Bool.not_true] | skip)
    replace H := Option.bind_eq_some_iff.mp H
    obtain ⟨t218, A100, H⟩ := H
    replace H : (if t218 = true then ((laws_eqIntS.f k l0_2 l1_2).bind fun t219 => (if t219 = true then (some true) else (some false))) else (some false)) = some r := H
    have A10 := Aside0.mk A100
    clear A100
    have HL11 := Aside0.mk H
    clear H
    have hnb12 := NB216_217.out
    have hnc12 := NB217_216.out
    obtain ⟨hcz13_0, hcz13_1, hcz13_2, hfz13_0, hfz13_1, hfz13_2⟩ := bkA3 BK216.out
    obtain ⟨hcz14_0, hcz14_1, hcz14_2, hfz14_0, hfz14_1, hfz14_2⟩ := bkA3 BK217.out
    go_upto_if 15 with (first | ((with_reducible refine gate_callee (f := 164) rfl ?_); refine goesL_ (some 14) rfl rfl Tryd.func164 (by kernel_rfl) rfl #[.slice A0_1 l0_1.length c0_1, .slice A1_1 l1_1.length c1_1] rfl (by (try simp only [List.map_toArray, List.map_cons, List.map_nil]); first | done | rfl | (simp only [List.length_drop, List.length_take]; rfl)) ?_; (with_reducible refine (laws_eqStringS.calls k _ _ l0_1 _ _ l1_1 t218 _ ?side1 ?side2 ?side3 ?side4 A10.out).mono ?_); (case side1 => repeat (first | exact (Kd.C_below HR0_1.out HB.out) | (with_reducible refine Kd.C_alloc ?_ _) | (with_reducible refine Kd.C_drewN ?_ _) | (with_reducible refine Kd.C_drew ?_))); (case side2 => exact HC0_1.out); (case side3 => repeat (first | exact (Kd.C_below HR1_1.out HB.out) | (with_reducible refine Kd.C_alloc ?_ _) | (with_reducible refine Kd.C_drewN ?_ _) | (with_reducible refine Kd.C_drew ?_))); (case side4 => exact HC1_1.out); rintro e w' ⟨rfl, ⟨nd, rfl⟩⟩; refine ⟨_, rfl, ?_⟩))
    have H := HL11.out
    clear HL11
    by_cases c15 : t218 = true
    · subst c15
      have H1 : ((laws_eqIntS.f k l0_2 l1_2).bind fun t219 => (if t219 = true then (some true) else (some false))) = some r := by rw [if_pos rfl] at H; exact H
      clear H
      have H := H1
      clear H1
      replace H := Option.bind_eq_some_iff.mp H
      obtain ⟨t219, A160, H⟩ := H
      replace H : (if t219 = true then (some true) else (some false)) = some r := H
      have A16 := Aside0.mk A160
      clear A160
      have HL17 := Aside0.mk H
      clear H
      have hnb18 := NB216_217.out
      have hnc18 := NB217_216.out
      obtain ⟨hcz19_0, hcz19_1, hcz19_2, hfz19_0, hfz19_1, hfz19_2⟩ := bkA3 BK216.out
      obtain ⟨hcz20_0, hcz20_1, hcz20_2, hfz20_0, hfz20_1, hfz20_2⟩ := bkA3 BK217.out
      go_upto_if 21 with (first | ((with_reducible refine gate_callee (f := 165) rfl ?_); refine goesL_ (some 20) rfl rfl Tryd.func165 (by kernel_rfl) rfl #[.slice A0_2 l0_2.length c0_2, .slice A1_2 l1_2.length c1_2] rfl (by (try simp only [List.map_toArray, List.map_cons, List.map_nil]); first | done | rfl | (simp only [List.length_drop, List.length_take]; rfl)) ?_; (with_reducible refine (laws_eqIntS.calls k _ _ l0_2 _ _ l1_2 t219 _ ?side1 ?side2 ?side3 ?side4 A16.out).mono ?_); (case side1 => repeat (first | exact (Kd.C_below HR0_2.out HB.out) | (with_reducible refine Kd.C_alloc ?_ _) | (with_reducible refine Kd.C_drewN ?_ _) | (with_reducible refine Kd.C_drew ?_))); (case side2 => exact HC0_2.out); (case side3 => repeat (first | exact (Kd.C_below HR1_2.out HB.out) | (with_reducible refine Kd.C_alloc ?_ _) | (with_reducible refine Kd.C_drewN ?_ _) | (with_reducible refine Kd.C_drew ?_))); (case side4 => exact HC1_2.out); rintro e w' ⟨rfl, ⟨nd, rfl⟩⟩; refine ⟨_, rfl, ?_⟩))
      have H := HL17.out
      clear HL17
      by_cases c21 : t219 = true
      · subst c21
        have H1 : (some true) = some r := by rw [if_pos rfl] at H; exact H
        clear H
        have H := H1
        clear H1
        obtain rfl := Option.some.inj H
        go_wp2
        go_ret
        exact ⟨by first | rfl | (simp [errW_none, errW_some] <;> rfl) | (simp [*, errW_none, errW_some] <;> rfl), by repeat (first | (with_reducible first | exact HB.out | apply below_alloc | apply pw_below_drewN | apply below_drew1 | refine below_set ?_ GE216.out | refine below_set ?_ GE217.out) | exact HB.out)⟩
      · replace c21 := Bool.eq_false_iff.mpr c21
        subst c21
        have H1 : (some false) = some r := by rw [if_neg (show ¬ (false = true) by decide)] at H; exact H
        clear H
        have H := H1
        clear H1
        obtain rfl := Option.some.inj H
        go_wp2
        go_ret
        exact ⟨by first | rfl | (simp [errW_none, errW_some] <;> rfl) | (simp [*, errW_none, errW_some] <;> rfl), by repeat (first | (with_reducible first | exact HB.out | apply below_alloc | apply pw_below_drewN | apply below_drew1 | refine below_set ?_ GE216.out | refine below_set ?_ GE217.out) | exact HB.out)⟩
    · replace c15 := Bool.eq_false_iff.mpr c15
      subst c15
      have H1 : (some false) = some r := by rw [if_neg (show ¬ (false = true) by decide)] at H; exact H
      clear H
      have H := H1
      clear H1
      obtain rfl := Option.some.inj H
      go_wp2
      go_ret
      exact ⟨by first | rfl | (simp [errW_none, errW_some] <;> rfl) | (simp [*, errW_none, errW_some] <;> rfl), by repeat (first | (with_reducible first | exact HB.out | apply below_alloc | apply pw_below_drewN | apply below_drew1 | refine below_set ?_ GE216.out | refine below_set ?_ GE217.out) | exact HB.out)⟩
  · rw [if_neg c9] at H
    have c9b0 : (a0_0 == a1_0) = false := beq_eq_false_iff_ne.mpr c9
    have c9b1 : (a0_0 != a1_0) = true := bne_iff_ne.mpr c9
    (first | rw [c9b0] | (simp only [i64_w, i32_w]; rw [c9b0]) | simp only [c9b2, Bool.not_false, Bool.not_true] | skip)
    obtain rfl := Option.some.inj H
    go_wp2
    go_ret
    exact ⟨by first | rfl | (simp [errW_none, errW_some] <;> rfl) | (simp [*, errW_none, errW_some] <;> rfl), by repeat (first | (with_reducible first | exact HB.out | apply below_alloc | apply pw_below_drewN | apply below_drew1 | refine below_set ?_ GE216.out | refine below_set ?_ GE217.out) | exact HB.out)⟩
end Go.Proofs.YtnbohlcibgfjaaaDoor.Gp
end
