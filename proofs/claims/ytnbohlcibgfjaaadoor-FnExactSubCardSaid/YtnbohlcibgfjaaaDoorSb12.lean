/- A part of the proof of RowFnExactSub: each text's theorems that it needs, packed by shake.py, a program of this work; Lean checks them. -/
import Derived.Test.YtnbohlcibgfjaaaDoorSb2
import Derived.Test.YtnbohlcibgfjaaaDoorSb7
import Derived.Test.YtnbohlcibgfjaaaDoorSb11
section
namespace Go.Proofs.YtnbohlcibgfjaaaDoor.Gp
open Go.RowKit Go.Proofs.YtnbohlcibgfjaaaDoorW.PrintWords Go.Proofs.YtnbohlcibgfjaaaDoorW.PrintLast Go.Proofs.YtnbohlcibgfjaaaDoorW.PrintMore
set_option linter.unusedVariables false
set_option linter.unusedSimpArgs false
def okI (n : Int) : Prop := -9223372036854775808 ≤ n ∧ n ≤ 9223372036854775807
instance (n : Int) : Decidable (okI n) := by unfold okI; infer_instance
def sub_d : Nat → NdT → NdT → Nat → List PrT → Option (Bool × List PrT)
  | 0, _, _, _, _ => none
  | k + 1, X, Y, i, o => if o.length < 1099511627776 ∧ Y.f1.length < 1099511627776 then (if i < Y.f1.length then (slices_BinarySearch_string_string.f k X.f1 (rdOf ByteArray.empty Y.f1 (i : Int))).bind fun p => (if p.2 = true then (if ((0 ≤ p.1 ∧ p.1 < (X.f2.length : Int)) ∧ i < Y.f2.length) ∧ (okI (rd X.f2 p.1) ∧ okI (rd Y.f2 i)) then sub_d k X Y (i + 1) (addP o ⟨rd X.f2 p.1, rd Y.f2 i, 0⟩) else none) else some (false, o)) else some (true, o)) else none
def sub_st (g : List NdT) (k : Nat) (q : PrT) (o : List PrT) : Option (Bool × List PrT) :=
  if (0 ≤ q.f0 ∧ q.f0 < (g.length : Int)) ∧ (0 ≤ q.f1 ∧ q.f1 < (g.length : Int)) then (if (rd_T145 g q.f0).f0 = 0 then some (true, o) else (if (rd_T145 g q.f1).f0 = 0 then some (true, o) else (if (rd_T145 g q.f0).f0 = (rd_T145 g q.f1).f0 then (if (rd_T145 g q.f0).f0 = 3 then sub_d k (rd_T145 g q.f0) (rd_T145 g q.f1) 0 o else (if (rd_T145 g q.f0).f0 = 4 then (if ((2 ≤ (rd_T145 g q.f0).f2.length ∧ 2 ≤ (rd_T145 g q.f1).f2.length) ∧ o.length < 1099511627775) ∧ ((okI (rd (rd_T145 g q.f0).f2 0) ∧ okI (rd (rd_T145 g q.f0).f2 1)) ∧ (okI (rd (rd_T145 g q.f1).f2 0) ∧ okI (rd (rd_T145 g q.f1).f2 1))) then some (true, addP (addP o ⟨rd (rd_T145 g q.f1).f2 0, rd (rd_T145 g q.f0).f2 0, 0⟩) ⟨rd (rd_T145 g q.f0).f2 1, rd (rd_T145 g q.f1).f2 1, 0⟩) else none) else some (true, o))) else some (false, o)))) else none
theorem addP_len (o : List PrT) (q : PrT) : (addP o q).length ≤ o.length + 1 := by
  by_cases h : q ∈ o
  · rw [addP_in h]; omega
  · rw [addP_out h, List.length_append]; simp
set_option maxHeartbeats 64000000 in
set_option maxRecDepth 100000 in
theorem sub_step (k : Nat) (gg : Nat) (A : Option Addr) (c : Nat) (g : List NdT) (w0 : World) (hC : Kd.C k145 w0 A g.length g) (W : World) (gm gp : Nat) (o o' : List PrT) (q : PrT) (rr : Bool) (hP : PrAt w0 W gm gp o) (hgg : W.heap[gg]? = some (.cells #[.slice A g.length c] 76 (0, 0))) (h : sub_st g k q o = some (rr, o')) :
    Calls Tryd.prog 108 #[.agg #[.int .i64 q.f0, .int .i64 q.f1, .int .i64 q.f2], .func (.func 139) #[] #[.pointer (some ⟨gm, 0, none⟩)], .pointer (some ⟨gg, 0, none⟩)] W fun e W' => e = .returned (.bool rr) ∧ PrAt w0 W' gm gp o' ∧ FrP W W' := by
  have hu1 := Tryd.underlying141
  have hu2 := Tryd.underlying76
  have hu3 := Tryd.underlying145
  have hu4 := Tryd.underlying74
  have hu5 := Tryd.underlying135
  have hu6 := Tryd.underlying143
  unfold sub_st at h
  by_cases gq_ : (0 ≤ q.f0 ∧ q.f0 < (g.length : Int)) ∧ (0 ≤ q.f1 ∧ q.f1 < (g.length : Int))
  case neg => rw [if_neg gq_] at h; cases h
  rw [if_pos gq_] at h
  obtain ⟨ad, A1, c1, A2, c2, eA, hx0, hx1, hx2, hl1, hC1, hl2, hC2⟩ := at_T145 hC q.f0 gq_.1.1 gq_.1.2
  obtain ⟨ad', B1, d1, B2, d2, eB, hy0, hy1, hy2, hm1, hD1, hm2, hD2⟩ := at_T145 hC q.f1 gq_.2.1 gq_.2.2
  cases eA
  cases eB
  replace hx0 := pw_cell_below hP.bel hx0
  replace hx1 := pw_cell_below hP.bel hx1
  replace hx2 := pw_cell_below hP.bel hx2
  replace hy0 := pw_cell_below hP.bel hy0
  replace hy1 := pw_cell_below hP.bel hy1
  replace hy2 := pw_cell_below hP.bel hy2
  have p0 := eq_true gq_.1.1
  have q0 := eq_true gq_.1.2
  have p1 := eq_true gq_.2.1
  have q1 := eq_true gq_.2.2
  obtain ⟨X, hX⟩ : ∃ X, X = rd_T145 g q.f0 := ⟨_, rfl⟩
  obtain ⟨Y, hY⟩ : ∃ Y, Y = rd_T145 g q.f1 := ⟨_, rfl⟩
  rw [← hX] at hx0 hx1 hx2 hl1 hC1 hl2 hC2
  rw [← hY] at hy0 hy1 hy2 hm1 hD1 hm2 hD2
  rw [← hX, ← hY] at h
  have H := Aside0.mk h
  have HP := Aside0.mk hP
  have HG := Aside0.mk hgg
  have HX := Aside0.mk (And.intro hx0 (And.intro hx1 hx2))
  have HY := Aside0.mk (And.intro hy0 (And.intro hy1 hy2))
  have HC := Aside0.mk (And.intro (And.intro hl1 hC1) (And.intro hl2 hC2))
  have HD := Aside0.mk (And.intro (And.intro hm1 hD1) (And.intro hm2 hD2))
  clear h hP hgg hx0 hx1 hx2 hy0 hy1 hy2 hl1 hC1 hl2 hC2 hm1 hD1 hm2 hD2 hX hY gq_
  go_enter Tryd.func108, Tryd.ntmps108
  go_wp2
  obtain ⟨W2, hW2⟩ : ∃ W2 : World, W2 = W.alloc (.cells #[.int .i64 q.f0, .int .i64 q.f1, .int .i64 q.f2] 141) := ⟨_, rfl⟩
  rw [← hW2]
  have hb2 : Below W.heap.size W W2 := by rw [hW2]; exact below_alloc (Below.refl _ _) _
  have hx9 : W2.heap[W.heap.size]? = some (.cells #[.int .i64 q.f0, .int .i64 q.f1, .int .i64 q.f2] 141 (0, 0)) := by rw [hW2]; exact blk_new _ _
  clear hW2
  have HB2 := Aside0.mk hb2
  have HQ := Aside0.mk hx9
  clear hb2 hx9
  generalize W.heap.size = gq at HQ ⊢
  refine start_ (n := 16) (S := fun w' => w'.cell? ⟨gg, 0, none⟩ = some (.slice (some ad) g.length c) ∧ w'.cell? ⟨gq, 0, none⟩ = some (.int .i64 q.f0) ∧ w'.cell? ⟨gq, 1, none⟩ = some (.int .i64 q.f1) ∧ w'.cell? ⟨gq, 2, none⟩ = some (.int .i64 q.f2) ∧ w'.cell? (ad.add (q.f0.toNat * 3)) = some (.int .i64 X.f0) ∧ w'.cell? ⟨(ad.add (q.f0.toNat * 3)).block, (ad.add (q.f0.toNat * 3)).off + 1, none⟩ = some (.slice A1 X.f1.length c1) ∧ w'.cell? ⟨(ad.add (q.f0.toNat * 3)).block, (ad.add (q.f0.toNat * 3)).off + 2, none⟩ = some (.slice A2 X.f2.length c2) ∧ w'.cell? (ad.add (q.f1.toNat * 3)) = some (.int .i64 Y.f0) ∧ w'.cell? ⟨(ad.add (q.f1.toNat * 3)).block, (ad.add (q.f1.toNat * 3)).off + 1, none⟩ = some (.slice B1 Y.f1.length d1) ∧ w'.cell? ⟨(ad.add (q.f1.toNat * 3)).block, (ad.add (q.f1.toNat * 3)).off + 2, none⟩ = some (.slice B2 Y.f2.length d2)) (ds := [15]) #[false, false, false, false, false, false, false, false, false, false, false, false, false, false, false, false] (by kernel_rfl) rfl rfl ⟨(blk_cell (blk_below HG.out HB2.out) 0).trans rfl, (blk_cell HQ.out 0).trans rfl, (blk_cell HQ.out 1).trans rfl, (blk_cell HQ.out 2).trans rfl, pw_cell_below HB2.out HX.out.1, pw_cell_below HB2.out HX.out.2.1, pw_cell_below HB2.out HX.out.2.2, pw_cell_below HB2.out HY.out.1, pw_cell_below HB2.out HY.out.2.1, pw_cell_below HB2.out HY.out.2.2⟩ (fun hHeld => ?_)
  have HH0 := Aside0.mk hHeld
  refine pure_ (i := 0) (N := some 12) (v := ?_) (a' := ?_) #[true, false, false, false, false, false, false, false, false, false, false, false, false, false, false, false] rfl rfl (by kernel_rfl) (fun _ _ _ h => h) (Or.inl ⟨by rfl, ?_⟩) ?_ ?_
  rotate_left
  · intro w'
    go_simp
    with_reducible rfl
  rotate_left
  · simp only [Act.put, List.setIfInBounds_toArray, List.set_cons_zero, List.set_cons_succ, i64_w, i32_w]
    rfl
  refine take_ (i := 1) (N := some 13) (v := ?_) (a' := ?_) #[true, true, false, false, false, false, false, false, false, false, false, false, false, false, false, false] rfl rfl (by kernel_rfl) (fun _ _ _ h => h) (Or.inl ⟨by rfl, ?_⟩) hHeld ?_ ?_
  rotate_left
  · rintro w' ⟨s0, s1, s2, s3, s4, s5, s6, s7, s8, s9⟩
    go_simp
    with_reducible rfl
  rotate_left
  · simp only [Act.put, List.setIfInBounds_toArray, List.set_cons_zero, List.set_cons_succ, i64_w, i32_w]
    rfl
  refine pure_ (i := 2) (N := some 14) (v := ?_) (a' := ?_) #[true, true, true, false, false, false, false, false, false, false, false, false, false, false, false, false] rfl rfl (by kernel_rfl) (fun _ _ _ h => h) (Or.inl ⟨by rfl, ?_⟩) ?_ ?_
  rotate_left
  · intro w'
    go_simp
    with_reducible rfl
  rotate_left
  · simp only [Act.put, List.setIfInBounds_toArray, List.set_cons_zero, List.set_cons_succ, i64_w, i32_w]
    rfl
  refine take_ (i := 3) (N := some 15) (v := ?_) (a' := ?_) #[true, true, true, true, false, false, false, false, false, false, false, false, false, false, false, false] rfl rfl (by kernel_rfl) (fun _ _ _ h => h) (Or.inl ⟨by rfl, ?_⟩) hHeld ?_ ?_
  rotate_left
  · rintro w' ⟨s0, s1, s2, s3, s4, s5, s6, s7, s8, s9⟩
    go_simp
    with_reducible rfl
  rotate_left
  · simp only [Act.put, List.setIfInBounds_toArray, List.set_cons_zero, List.set_cons_succ, i64_w, i32_w]
    rfl
  refine pure_ (i := 4) (N := some 16) (v := ?_) (a' := ?_) #[true, true, true, true, true, false, false, false, false, false, false, false, false, false, false, false] rfl rfl (by kernel_rfl) (fun _ _ _ h => h) (Or.inl ⟨by rfl, ?_⟩) ?_ ?_
  rotate_left
  · intro w'
    go_simp
    with_reducible rfl
  rotate_left
  · simp only [Act.put, List.setIfInBounds_toArray, List.set_cons_zero, List.set_cons_succ, i64_w, i32_w]
    rfl
  refine take_ (i := 5) (N := some 17) (v := ?_) (a' := ?_) #[true, true, true, true, true, true, false, false, false, false, false, false, false, false, false, false] rfl rfl (by kernel_rfl) (fun _ _ _ h => h) (Or.inl ⟨by rfl, ?_⟩) hHeld ?_ ?_
  rotate_left
  · rintro w' ⟨s0, s1, s2, s3, s4, s5, s6, s7, s8, s9⟩
    go_simp
    with_reducible rfl
  rotate_left
  · simp only [Act.put, List.setIfInBounds_toArray, List.set_cons_zero, List.set_cons_succ, i64_w, i32_w]
    rfl
  refine pure_ (i := 6) (N := some 18) (v := ?_) (a' := ?_) #[true, true, true, true, true, true, true, false, false, false, false, false, false, false, false, false] rfl rfl (by kernel_rfl) (fun _ _ _ h => h) (Or.inl ⟨by rfl, ?_⟩) ?_ ?_
  rotate_left
  · intro w'
    go_simp
    with_reducible rfl
  rotate_left
  · simp only [Act.put, List.setIfInBounds_toArray, List.set_cons_zero, List.set_cons_succ, i64_w, i32_w]
    rfl
  refine take_ (i := 7) (N := some 19) (v := ?_) (a' := ?_) #[true, true, true, true, true, true, true, true, false, false, false, false, false, false, false, false] rfl rfl (by kernel_rfl) (fun _ _ _ h => h) (Or.inl ⟨by rfl, ?_⟩) hHeld ?_ ?_
  rotate_left
  · rintro w' ⟨s0, s1, s2, s3, s4, s5, s6, s7, s8, s9⟩
    go_simp
    with_reducible rfl
  rotate_left
  · simp only [Act.put, List.setIfInBounds_toArray, List.set_cons_zero, List.set_cons_succ, i64_w, i32_w]
    rfl
  refine pure_ (i := 8) (N := some 20) (v := ?_) (a' := ?_) #[true, true, true, true, true, true, true, true, true, false, false, false, false, false, false, false] rfl rfl (by kernel_rfl) (fun _ _ _ h => h) (Or.inl ⟨by rfl, ?_⟩) ?_ ?_
  rotate_left
  · intro w'
    go_simp
    with_reducible rfl
  rotate_left
  · simp only [Act.put, List.setIfInBounds_toArray, List.set_cons_zero, List.set_cons_succ, i64_w, i32_w]
    rfl
  refine take_ (i := 9) (N := some 21) (v := ?_) (a' := ?_) #[true, true, true, true, true, true, true, true, true, true, false, false, false, false, false, false] rfl rfl (by kernel_rfl) (fun _ _ _ h => h) (Or.inl ⟨by rfl, ?_⟩) hHeld ?_ ?_
  rotate_left
  · rintro w' ⟨s0, s1, s2, s3, s4, s5, s6, s7, s8, s9⟩
    go_simp
    with_reducible rfl
  rotate_left
  · simp only [Act.put, List.setIfInBounds_toArray, List.set_cons_zero, List.set_cons_succ, i64_w, i32_w]
    rfl
  refine pure_ (i := 10) (N := some 22) (v := ?_) (a' := ?_) #[true, true, true, true, true, true, true, true, true, true, true, false, false, false, false, false] rfl rfl (by kernel_rfl) (fun _ _ _ h => h) (Or.inl ⟨by rfl, ?_⟩) ?_ ?_
  rotate_left
  · intro w'
    go_simp
    with_reducible rfl
  rotate_left
  · simp only [Act.put, List.setIfInBounds_toArray, List.set_cons_zero, List.set_cons_succ, i64_w, i32_w]
    rfl
  refine take_ (i := 11) (N := some 23) (v := ?_) (a' := ?_) #[true, true, true, true, true, true, true, true, true, true, true, true, false, false, false, false] rfl rfl (by kernel_rfl) (fun _ _ _ h => h) (Or.inl ⟨by rfl, ?_⟩) hHeld ?_ ?_
  rotate_left
  · rintro w' ⟨s0, s1, s2, s3, s4, s5, s6, s7, s8, s9⟩
    go_simp
    with_reducible rfl
  rotate_left
  · simp only [Act.put, List.setIfInBounds_toArray, List.set_cons_zero, List.set_cons_succ, i64_w, i32_w]
    rfl
  refine join_ (σ := Nat × Nat) 2 #[true, true, true, true, true, true, true, true, true, true, true, true, true, true, false, false] (fun s => [(6, .pointer (some ⟨s.1, 0, none⟩)), (7, .pointer (some ⟨s.2, 0, none⟩))]) (fun s w' => w'.heap[s.1]? = some (.cells #[.int .i64 0, .slice none 0 0, .slice none 0 0] 145 (0, 0)) ∧ w'.heap[s.2]? = some (.cells #[.int .i64 0, .slice none 0 0, .slice none 0 0] 145 (0, 0)) ∧ s.1 ≠ s.2 ∧ Below W2.drew.heap.size W2.drew w' ∧ W2.heap.size ≤ s.1 ∧ W2.heap.size ≤ s.2) ?_ ?_
  rotate_left
  · intro hJ
    refine two_ (i := 12) (j := 13) (Ni := some 6) (Nj := some 7) #[true, true, true, true, true, true, true, true, true, true, true, true, true, false, false, false] #[true, true, true, true, true, true, true, true, true, true, true, true, false, true, false, false] rfl rfl rfl rfl (by kernel_rfl) (by decide) (by decide) (fun K hK => ?_) (fun K hK => ?_)
    · refine value_ (v := .pointer (some ⟨W2.drew.heap.size, 0, none⟩)) (w1 := W2.drew.alloc (.cells #[.int .i64 0, .slice none 0 0, .slice none 0 0] 145)) (by rfl) rfl ?_ ?_
      · go_simp
      refine hK.out _ _ ⟨pw_cell_below (below_alloc (Below.refl _ _) _) hHeld.1, pw_cell_below (below_alloc (Below.refl _ _) _) hHeld.2.1, pw_cell_below (below_alloc (Below.refl _ _) _) hHeld.2.2.1, pw_cell_below (below_alloc (Below.refl _ _) _) hHeld.2.2.2.1, pw_cell_below (below_alloc (Below.refl _ _) _) hHeld.2.2.2.2.1, pw_cell_below (below_alloc (Below.refl _ _) _) hHeld.2.2.2.2.2.1, pw_cell_below (below_alloc (Below.refl _ _) _) hHeld.2.2.2.2.2.2.1, pw_cell_below (below_alloc (Below.refl _ _) _) hHeld.2.2.2.2.2.2.2.1, pw_cell_below (below_alloc (Below.refl _ _) _) hHeld.2.2.2.2.2.2.2.2.1, pw_cell_below (below_alloc (Below.refl _ _) _) hHeld.2.2.2.2.2.2.2.2.2⟩ (fun hHeld => ?_)
      clear hK K
      refine norm_ (a' := ?_) ?_ ?_
      rotate_left
      · show Act.put _ (some 6) _ = _
        simp only [Act.put, List.setIfInBounds_toArray, List.set_cons_zero, List.set_cons_succ, i64_w, i32_w]
        rfl
      refine one_ (i := 13) (N := some 7) #[true, true, true, true, true, true, true, true, true, true, true, true, true, true, false, false] rfl rfl (by kernel_rfl) (by decide) (fun K hK => ?_)
      refine value_ (v := .pointer (some ⟨(W2.drew.alloc (.cells #[.int .i64 0, .slice none 0 0, .slice none 0 0] 145)).heap.size, 0, none⟩)) (w1 := (W2.drew.alloc (.cells #[.int .i64 0, .slice none 0 0, .slice none 0 0] 145)).alloc (.cells #[.int .i64 0, .slice none 0 0, .slice none 0 0] 145)) (by rfl) rfl ?_ ?_
      · go_simp
      refine hK.out _ _ ⟨pw_cell_below (below_alloc (Below.refl _ _) _) hHeld.1, pw_cell_below (below_alloc (Below.refl _ _) _) hHeld.2.1, pw_cell_below (below_alloc (Below.refl _ _) _) hHeld.2.2.1, pw_cell_below (below_alloc (Below.refl _ _) _) hHeld.2.2.2.1, pw_cell_below (below_alloc (Below.refl _ _) _) hHeld.2.2.2.2.1, pw_cell_below (below_alloc (Below.refl _ _) _) hHeld.2.2.2.2.2.1, pw_cell_below (below_alloc (Below.refl _ _) _) hHeld.2.2.2.2.2.2.1, pw_cell_below (below_alloc (Below.refl _ _) _) hHeld.2.2.2.2.2.2.2.1, pw_cell_below (below_alloc (Below.refl _ _) _) hHeld.2.2.2.2.2.2.2.2.1, pw_cell_below (below_alloc (Below.refl _ _) _) hHeld.2.2.2.2.2.2.2.2.2⟩ (fun hHeld => ?_)
      clear hK K
      refine norm_ (a' := ?_) ?_ ?_
      rotate_left
      · show Act.put _ (some 7) _ = _
        simp only [Act.put, List.setIfInBounds_toArray, List.set_cons_zero, List.set_cons_succ, i64_w, i32_w]
        rfl
      exact norm_ (by first | (simp only [putAll, Act.put, sA_]; done) | (simp only [putAll, Act.put, sA_]; rfl)) (hJ (W2.drew.heap.size, (W2.drew.alloc (.cells #[.int .i64 0, .slice none 0 0, .slice none 0 0] 145)).heap.size) _ ⟨blk_alloc (blk_new _ _) _, blk_new _ _, (by simp), below_alloc (below_alloc (Below.refl _ _) _) _, (Nat.le_refl _), (by simp)⟩)
    · refine value_ (v := .pointer (some ⟨W2.drew.heap.size, 0, none⟩)) (w1 := W2.drew.alloc (.cells #[.int .i64 0, .slice none 0 0, .slice none 0 0] 145)) (by rfl) rfl ?_ ?_
      · go_simp
      refine hK.out _ _ ⟨pw_cell_below (below_alloc (Below.refl _ _) _) hHeld.1, pw_cell_below (below_alloc (Below.refl _ _) _) hHeld.2.1, pw_cell_below (below_alloc (Below.refl _ _) _) hHeld.2.2.1, pw_cell_below (below_alloc (Below.refl _ _) _) hHeld.2.2.2.1, pw_cell_below (below_alloc (Below.refl _ _) _) hHeld.2.2.2.2.1, pw_cell_below (below_alloc (Below.refl _ _) _) hHeld.2.2.2.2.2.1, pw_cell_below (below_alloc (Below.refl _ _) _) hHeld.2.2.2.2.2.2.1, pw_cell_below (below_alloc (Below.refl _ _) _) hHeld.2.2.2.2.2.2.2.1, pw_cell_below (below_alloc (Below.refl _ _) _) hHeld.2.2.2.2.2.2.2.2.1, pw_cell_below (below_alloc (Below.refl _ _) _) hHeld.2.2.2.2.2.2.2.2.2⟩ (fun hHeld => ?_)
      clear hK K
      refine norm_ (a' := ?_) ?_ ?_
      rotate_left
      · show Act.put _ (some 7) _ = _
        simp only [Act.put, List.setIfInBounds_toArray, List.set_cons_zero, List.set_cons_succ, i64_w, i32_w]
        rfl
      refine one_ (i := 12) (N := some 6) #[true, true, true, true, true, true, true, true, true, true, true, true, true, true, false, false] rfl rfl (by kernel_rfl) (by decide) (fun K hK => ?_)
      refine value_ (v := .pointer (some ⟨(W2.drew.alloc (.cells #[.int .i64 0, .slice none 0 0, .slice none 0 0] 145)).heap.size, 0, none⟩)) (w1 := (W2.drew.alloc (.cells #[.int .i64 0, .slice none 0 0, .slice none 0 0] 145)).alloc (.cells #[.int .i64 0, .slice none 0 0, .slice none 0 0] 145)) (by rfl) rfl ?_ ?_
      · go_simp
      refine hK.out _ _ ⟨pw_cell_below (below_alloc (Below.refl _ _) _) hHeld.1, pw_cell_below (below_alloc (Below.refl _ _) _) hHeld.2.1, pw_cell_below (below_alloc (Below.refl _ _) _) hHeld.2.2.1, pw_cell_below (below_alloc (Below.refl _ _) _) hHeld.2.2.2.1, pw_cell_below (below_alloc (Below.refl _ _) _) hHeld.2.2.2.2.1, pw_cell_below (below_alloc (Below.refl _ _) _) hHeld.2.2.2.2.2.1, pw_cell_below (below_alloc (Below.refl _ _) _) hHeld.2.2.2.2.2.2.1, pw_cell_below (below_alloc (Below.refl _ _) _) hHeld.2.2.2.2.2.2.2.1, pw_cell_below (below_alloc (Below.refl _ _) _) hHeld.2.2.2.2.2.2.2.2.1, pw_cell_below (below_alloc (Below.refl _ _) _) hHeld.2.2.2.2.2.2.2.2.2⟩ (fun hHeld => ?_)
      clear hK K
      refine norm_ (a' := ?_) ?_ ?_
      rotate_left
      · show Act.put _ (some 6) _ = _
        simp only [Act.put, List.setIfInBounds_toArray, List.set_cons_zero, List.set_cons_succ, i64_w, i32_w]
        rfl
      exact norm_ (by first | (simp only [putAll, Act.put, sA_]; done) | (simp only [putAll, Act.put, sA_]; rfl)) (hJ ((W2.drew.alloc (.cells #[.int .i64 0, .slice none 0 0, .slice none 0 0] 145)).heap.size, W2.drew.heap.size) _ ⟨blk_new _ _, blk_alloc (blk_new _ _) _, (by simp), below_alloc (below_alloc (Below.refl _ _) _) _, (by simp), (Nat.le_refl _)⟩)
  rintro ⟨g6, g7⟩ w3 ⟨h6, h7, hne, hb3, hl6, hl7⟩
  refine norm_ (a' := ?_) ?_ ?_
  rotate_left
  · simp only [putAll, Act.put, sA_]
    rfl
  have hz60 : w3.cell? ⟨g6, 0, none⟩ = some (.int .i64 0) := (blk_cell h6 0).trans rfl
  have hz61 : w3.cell? ⟨g6, 1, none⟩ = some (.slice none 0 0) := (blk_cell h6 1).trans rfl
  have hz62 : w3.cell? ⟨g6, 2, none⟩ = some (.slice none 0 0) := (blk_cell h6 2).trans rfl
  have hf60 := blk_frozen h6 0
  have hf61 := blk_frozen h6 1
  have hf62 := blk_frozen h6 2
  refine one_ (i := 14) (N := none) #[true, true, true, true, true, true, true, true, true, true, true, true, true, true, true, false] rfl rfl (by kernel_rfl) (by decide) (fun K hK => ?_)
  have hb4 : Below W2.drew.heap.size W2.drew ((((w3).setCell ⟨g6, 0, none⟩ (.int .i64 X.f0)).setCell ⟨g6, 1, none⟩ (.slice A1 X.f1.length c1)).setCell ⟨g6, 2, none⟩ (.slice A2 X.f2.length c2)) := below_set (below_set (below_set hb3 hl6) hl6) hl6
  refine skip_ (w1 := (((w3).setCell ⟨g6, 0, none⟩ (.int .i64 X.f0)).setCell ⟨g6, 1, none⟩ (.slice A1 X.f1.length c1)).setCell ⟨g6, 2, none⟩ (.slice A2 X.f2.length c2)) (by rfl) rfl ?_ ?_
  · go_simp
  refine hK.out _ _ ⟨pw_cell_below hb4 HH0.out.1, pw_cell_below hb4 HH0.out.2.1, pw_cell_below hb4 HH0.out.2.2.1, pw_cell_below hb4 HH0.out.2.2.2.1, pw_cell_below hb4 HH0.out.2.2.2.2.1, pw_cell_below hb4 HH0.out.2.2.2.2.2.1, pw_cell_below hb4 HH0.out.2.2.2.2.2.2.1, pw_cell_below hb4 HH0.out.2.2.2.2.2.2.2.1, pw_cell_below hb4 HH0.out.2.2.2.2.2.2.2.2.1, pw_cell_below hb4 HH0.out.2.2.2.2.2.2.2.2.2⟩ (fun hHeld => ?_)
  clear hK K
  obtain ⟨w4, hw4⟩ : ∃ w4 : World, w4 = (((w3).setCell ⟨g6, 0, none⟩ (.int .i64 X.f0)).setCell ⟨g6, 1, none⟩ (.slice A1 X.f1.length c1)).setCell ⟨g6, 2, none⟩ (.slice A2 X.f2.length c2) := ⟨_, rfl⟩
  rw [← hw4]
  clear hz60 hz61 hz62 hf60 hf61 hf62
  have h64 : w4.heap[g6]? = some (.cells #[.int .i64 X.f0, .slice A1 X.f1.length c1, .slice A2 X.f2.length c2] 145 (0, 0)) := by rw [hw4]; exact blk_put (blk_put (blk_put h6 0 _ rfl) 1 _ rfl) 2 _ rfl
  have h74 : w4.heap[g7]? = some (.cells #[.int .i64 0, .slice none 0 0, .slice none 0 0] 145 (0, 0)) := by rw [hw4]; exact blk_far (blk_far (blk_far h7 (p := ⟨g6, 0, none⟩) (fun e => hne e.symm) _) (p := ⟨g6, 1, none⟩) (fun e => hne e.symm) _) (p := ⟨g6, 2, none⟩) (fun e => hne e.symm) _
  rw [← hw4] at hb4 hHeld
  clear hw4 hb3 h6 h7
  have hz70 : w4.cell? ⟨g7, 0, none⟩ = some (.int .i64 0) := (blk_cell h74 0).trans rfl
  have hz71 : w4.cell? ⟨g7, 1, none⟩ = some (.slice none 0 0) := (blk_cell h74 1).trans rfl
  have hz72 : w4.cell? ⟨g7, 2, none⟩ = some (.slice none 0 0) := (blk_cell h74 2).trans rfl
  have hf70 := blk_frozen h74 0
  have hf71 := blk_frozen h74 1
  have hf72 := blk_frozen h74 2
  refine last_ (i := 15) (N := none) #[true, true, true, true, true, true, true, true, true, true, true, true, true, true, true, true] rfl rfl (by kernel_rfl) (by decide) (fun K hK => ?_)
  refine skip_ (w1 := (((w4).setCell ⟨g7, 0, none⟩ (.int .i64 Y.f0)).setCell ⟨g7, 1, none⟩ (.slice B1 Y.f1.length d1)).setCell ⟨g7, 2, none⟩ (.slice B2 Y.f2.length d2)) (by rfl) rfl ?_ ?_
  · go_simp
  refine hK.out _ _ ?_
  clear hK K
  refine done_ (by kernel_rfl) ?_
  obtain ⟨w5, hw5⟩ : ∃ w5 : World, w5 = (((w4).setCell ⟨g7, 0, none⟩ (.int .i64 Y.f0)).setCell ⟨g7, 1, none⟩ (.slice B1 Y.f1.length d1)).setCell ⟨g7, 2, none⟩ (.slice B2 Y.f2.length d2) := ⟨_, rfl⟩
  rw [← hw5]
  clear hz70 hz71 hz72 hf70 hf71 hf72
  have h75 : w5.heap[g7]? = some (.cells #[.int .i64 Y.f0, .slice B1 Y.f1.length d1, .slice B2 Y.f2.length d2] 145 (0, 0)) := by rw [hw5]; exact blk_put (blk_put (blk_put h74 0 _ rfl) 1 _ rfl) 2 _ rfl
  have h65 : w5.heap[g6]? = some (.cells #[.int .i64 X.f0, .slice A1 X.f1.length c1, .slice A2 X.f2.length c2] 145 (0, 0)) := by rw [hw5]; exact blk_far (blk_far (blk_far h64 (p := ⟨g7, 0, none⟩) hne _) (p := ⟨g7, 1, none⟩) hne _) (p := ⟨g7, 2, none⟩) hne _
  have hb5 : Below W2.drew.heap.size W2.drew w5 := by rw [hw5]; exact below_set (below_set (below_set hb4 hl7) hl7) hl7
  clear hw5 hb4 h64 h74
  have HB5 := Aside0.mk (below_step HB2.out (below_step (below_drew1 (Below.refl _ _)) hb5))
  clear hb5
  have H65 := Aside0.mk h65
  have H75 := Aside0.mk h75
  clear h65 h75 hl6 hl7 hne
  clear p0 q0 p1 q1
  have h := H.out
  clear H
  have hz60 : w5.cell? ⟨g6, 0, none⟩ = some (.int .i64 X.f0) := (blk_cell H65.out 0).trans rfl
  have hz70 : w5.cell? ⟨g7, 0, none⟩ = some (.int .i64 Y.f0) := (blk_cell H75.out 0).trans rfl
  have hz71 : w5.cell? ⟨g7, 1, none⟩ = some (.slice B1 Y.f1.length d1) := (blk_cell H75.out 1).trans rfl
  by_cases k1 : X.f0 = 0
  case pos =>
    rw [if_pos k1] at h
    simp only [Option.some.injEq, Prod.mk.injEq] at h
    obtain ⟨rfl, rfl⟩ := h
    have k1a : (X.f0 == 0) = true := by simpa using k1
    have k1b : decide (X.f0 = 0) = true := decide_eq_true k1
    have k1c : (X.f0 != 0) = false := by simpa using k1
    clear k1
    go_wp2
    go_ret
    exact ⟨rfl, HP.out.keep HB5.out, FrP.of_below HB5.out⟩
  rw [if_neg k1] at h
  have k1a : (X.f0 == 0) = false := by simpa using k1
  have k1b : decide (X.f0 = 0) = false := decide_eq_false k1
  have k1c : (X.f0 != 0) = true := by simpa using k1
  clear k1
  by_cases k2 : Y.f0 = 0
  case pos =>
    rw [if_pos k2] at h
    simp only [Option.some.injEq, Prod.mk.injEq] at h
    obtain ⟨rfl, rfl⟩ := h
    have k2a : (Y.f0 == 0) = true := by simpa using k2
    have k2b : decide (Y.f0 = 0) = true := decide_eq_true k2
    have k2c : (Y.f0 != 0) = false := by simpa using k2
    clear k2
    go_wp2
    go_ret
    exact ⟨rfl, HP.out.keep HB5.out, FrP.of_below HB5.out⟩
  rw [if_neg k2] at h
  have k2a : (Y.f0 == 0) = false := by simpa using k2
  have k2b : decide (Y.f0 = 0) = false := decide_eq_false k2
  have k2c : (Y.f0 != 0) = true := by simpa using k2
  clear k2
  by_cases k3 : X.f0 = Y.f0
  case neg =>
    rw [if_neg k3] at h
    simp only [Option.some.injEq, Prod.mk.injEq] at h
    obtain ⟨rfl, rfl⟩ := h
    have k3a : (X.f0 == Y.f0) = false := by simpa using k3
    have k3b : decide (X.f0 = Y.f0) = false := decide_eq_false k3
    have k3c : (X.f0 != Y.f0) = true := by simpa using k3
    clear k3
    go_wp2
    go_ret
    exact ⟨rfl, HP.out.keep HB5.out, FrP.of_below HB5.out⟩
  rw [if_pos k3] at h
  have k3a : (X.f0 == Y.f0) = true := by simpa using k3
  have k3b : decide (X.f0 = Y.f0) = true := decide_eq_true k3
  have k3c : (X.f0 != Y.f0) = false := by simpa using k3
  clear k3
  by_cases k4 : X.f0 = 3
  case neg =>
    rw [if_neg k4] at h
    have k4a : (X.f0 == 3) = false := by simpa using k4
    have k4b : decide (X.f0 = 3) = false := decide_eq_false k4
    have k4c : (X.f0 != 3) = true := by simpa using k4
    clear k4
    by_cases k5 : X.f0 = 4
    case neg =>
      rw [if_neg k5] at h
      simp only [Option.some.injEq, Prod.mk.injEq] at h
      obtain ⟨rfl, rfl⟩ := h
      have k5a : (X.f0 == 4) = false := by simpa using k5
      have k5b : decide (X.f0 = 4) = false := decide_eq_false k5
      have k5c : (X.f0 != 4) = true := by simpa using k5
      clear k5
      go_wp2
      go_ret
      exact ⟨rfl, HP.out.keep HB5.out, FrP.of_below HB5.out⟩
    rw [if_pos k5] at h
    have k5a : (X.f0 == 4) = true := by simpa using k5
    have k5b : decide (X.f0 = 4) = true := decide_eq_true k5
    have k5c : (X.f0 != 4) = false := by simpa using k5
    clear k5
    by_cases hc : ((2 ≤ X.f2.length ∧ 2 ≤ Y.f2.length) ∧ o.length < 1099511627775) ∧ ((okI (rd X.f2 0) ∧ okI (rd X.f2 1)) ∧ (okI (rd Y.f2 0) ∧ okI (rd Y.f2 1)))
    case neg => rw [if_neg hc] at h; cases h
    rw [if_pos hc] at h
    simp only [Option.some.injEq, Prod.mk.injEq] at h
    obtain ⟨rfl, rfl⟩ := h
    have HQ1 := Aside0.mk (show PrW ⟨rd Y.f2 0, rd X.f2 0, 0⟩ from ⟨i64wf _ hc.2.2.1.1 hc.2.2.1.2, i64wf _ hc.2.1.1.1 hc.2.1.1.2, i64wf 0 (by omega) (by omega)⟩)
    have HQ2 := Aside0.mk (show PrW ⟨rd X.f2 1, rd Y.f2 1, 0⟩ from ⟨i64wf _ hc.2.1.2.1 hc.2.1.2.2, i64wf _ hc.2.2.2.1 hc.2.2.2.2, i64wf 0 (by omega) (by omega)⟩)
    have HO := Aside0.mk hc.1.2
    have hlx : 2 ≤ X.f2.length := hc.1.1.1
    have hly : 2 ≤ Y.f2.length := hc.1.1.2
    obtain ⟨ax, eA, hx0⟩ := Kd.at_int HC.out.2.2 0 (by omega) (by omega)
    obtain ⟨ax', eA', hx1⟩ := Kd.at_int HC.out.2.2 1 (by omega) (by omega)
    obtain ⟨ay, eB, hy0⟩ := Kd.at_int HD.out.2.2 0 (by omega) (by omega)
    obtain ⟨ay', eB', hy1⟩ := Kd.at_int HD.out.2.2 1 (by omega) (by omega)
    obtain rfl : ax = ax' := Option.some.inj (eA.symm.trans eA')
    obtain rfl : ay = ay' := Option.some.inj (eB.symm.trans eB')
    clear eA' eB'
    cases eA
    cases eB
    have HKX := Aside0.mk (And.intro (show w0.cell? ax = _ from hx0) (show w0.cell? ⟨ax.block, ax.off + 1, none⟩ = _ from hx1))
    have HKY := Aside0.mk (And.intro (show w0.cell? ay = _ from hy0) (show w0.cell? ⟨ay.block, ay.off + 1, none⟩ = _ from hy1))
    have qx0 : (0 : Int) < (X.f2.length : Int) := by omega
    have qx1 : (1 : Int) < (X.f2.length : Int) := by omega
    have qy0 : (0 : Int) < (Y.f2.length : Int) := by omega
    have qy1 : (1 : Int) < (Y.f2.length : Int) := by omega
    have rx0 : 0 < X.f2.length := by omega
    have rx1 : 1 < X.f2.length := by omega
    have ry0 : 0 < Y.f2.length := by omega
    have ry1 : 1 < Y.f2.length := by omega
    clear hc hx0 hx1 hy0 hy1 hlx hly
    go_wp2
    have HP5 := Aside0.mk (HP.out.keep HB5.out)
    refine start_ (n := 11) (S := fun w' => w'.cell? ⟨g7, 2, none⟩ = some (.slice (some ay) Y.f2.length d2) ∧ w'.cell? ⟨g6, 2, none⟩ = some (.slice (some ax) X.f2.length c2) ∧ w'.cell? ay = some (.int .i64 (rd Y.f2 0)) ∧ w'.cell? ax = some (.int .i64 (rd X.f2 0))) (ds := [10]) #[false, false, false, false, false, false, false, false, false, false, false] (by kernel_rfl) rfl rfl ⟨(blk_cell H75.out 2).trans rfl, (blk_cell H65.out 2).trans rfl, pw_cell_below (HP5.out.bel) HKY.out.1, pw_cell_below (HP5.out.bel) HKX.out.1⟩ (fun hHeld => ?_)
    refine pure_ (i := 0) (N := some 78) (v := ?_) (a' := ?_) #[true, false, false, false, false, false, false, false, false, false, false] rfl rfl (by kernel_rfl) (fun _ _ _ h => h) (Or.inl ⟨by rfl, ?_⟩) ?_ ?_
    rotate_left
    · intro w'
      go_simp
      with_reducible rfl
    rotate_left
    · simp only [Act.put, List.setIfInBounds_toArray, List.set_cons_zero, List.set_cons_succ, i64_w, i32_w]
      rfl
    refine pure_ (i := 1) (N := some 79) (v := ?_) (a' := ?_) #[true, true, false, false, false, false, false, false, false, false, false] rfl rfl (by kernel_rfl) (fun _ _ _ h => h) (Or.inl ⟨by rfl, ?_⟩) ?_ ?_
    rotate_left
    · intro w'
      go_simp
      with_reducible rfl
    rotate_left
    · simp only [Act.put, List.setIfInBounds_toArray, List.set_cons_zero, List.set_cons_succ, i64_w, i32_w]
      rfl
    refine take_ (i := 2) (N := some 80) (v := ?_) (a' := ?_) #[true, true, true, false, false, false, false, false, false, false, false] rfl rfl (by kernel_rfl) (fun _ _ _ h => h) (Or.inl ⟨by rfl, ?_⟩) hHeld ?_ ?_
    rotate_left
    · rintro w' ⟨s0, s1, s2, s3⟩
      go_simp
      with_reducible rfl
    rotate_left
    · simp only [Act.put, List.setIfInBounds_toArray, List.set_cons_zero, List.set_cons_succ, i64_w, i32_w]
      rfl
    refine pure_ (i := 3) (N := some 81) (v := ?_) (a' := ?_) #[true, true, true, true, false, false, false, false, false, false, false] rfl rfl (by kernel_rfl) (fun _ _ _ h => h) (Or.inl ⟨by rfl, ?_⟩) ?_ ?_
    rotate_left
    · intro w'
      go_simp
      with_reducible rfl
    rotate_left
    · simp only [Act.put, List.setIfInBounds_toArray, List.set_cons_zero, List.set_cons_succ, i64_w, i32_w]
      rfl
    refine take_ (i := 4) (N := some 82) (v := ?_) (a' := ?_) #[true, true, true, true, true, false, false, false, false, false, false] rfl rfl (by kernel_rfl) (fun _ _ _ h => h) (Or.inl ⟨by rfl, ?_⟩) hHeld ?_ ?_
    rotate_left
    · rintro w' ⟨s0, s1, s2, s3⟩
      go_simp
      with_reducible rfl
    rotate_left
    · simp only [Act.put, List.setIfInBounds_toArray, List.set_cons_zero, List.set_cons_succ, i64_w, i32_w]
      rfl
    refine pure_ (i := 5) (N := some 83) (v := ?_) (a' := ?_) #[true, true, true, true, true, true, false, false, false, false, false] rfl rfl (by kernel_rfl) (fun _ _ _ h => h) (Or.inl ⟨by rfl, ?_⟩) ?_ ?_
    rotate_left
    · intro w'
      go_simp
      with_reducible rfl
    rotate_left
    · simp only [Act.put, List.setIfInBounds_toArray, List.set_cons_zero, List.set_cons_succ, i64_w, i32_w]
      rfl
    refine take_ (i := 6) (N := some 84) (v := ?_) (a' := ?_) #[true, true, true, true, true, true, true, false, false, false, false] rfl rfl (by kernel_rfl) (fun _ _ _ h => h) (Or.inl ⟨by rfl, ?_⟩) hHeld ?_ ?_
    rotate_left
    · rintro w' ⟨s0, s1, s2, s3⟩
      go_simp
      with_reducible rfl
    rotate_left
    · simp only [Act.put, List.setIfInBounds_toArray, List.set_cons_zero, List.set_cons_succ, i64_w, i32_w]
      rfl
    refine pure_ (i := 7) (N := some 85) (v := ?_) (a' := ?_) #[true, true, true, true, true, true, true, true, false, false, false] rfl rfl (by kernel_rfl) (fun _ _ _ h => h) (Or.inl ⟨by rfl, ?_⟩) ?_ ?_
    rotate_left
    · intro w'
      go_simp
      with_reducible rfl
    rotate_left
    · simp only [Act.put, List.setIfInBounds_toArray, List.set_cons_zero, List.set_cons_succ, i64_w, i32_w]
      rfl
    refine take_ (i := 8) (N := some 86) (v := ?_) (a' := ?_) #[true, true, true, true, true, true, true, true, true, false, false] rfl rfl (by kernel_rfl) (fun _ _ _ h => h) (Or.inl ⟨by rfl, ?_⟩) hHeld ?_ ?_
    rotate_left
    · rintro w' ⟨s0, s1, s2, s3⟩
      go_simp
      with_reducible rfl
    rotate_left
    · simp only [Act.put, List.setIfInBounds_toArray, List.set_cons_zero, List.set_cons_succ, i64_w, i32_w]
      rfl
    refine pure_ (i := 9) (N := some 87) (v := ?_) (a' := ?_) #[true, true, true, true, true, true, true, true, true, true, false] rfl rfl (by kernel_rfl) (fun _ _ _ h => h) (Or.inl ⟨by rfl, ?_⟩) ?_ ?_
    rotate_left
    · intro w'
      go_simp
      with_reducible rfl
    rotate_left
    · simp only [Act.put, List.setIfInBounds_toArray, List.set_cons_zero, List.set_cons_succ, i64_w, i32_w]
      rfl
    refine last_ (i := 10) (N := some 88) #[true, true, true, true, true, true, true, true, true, true, true] rfl rfl (by kernel_rfl) (by decide) (fun K hK => ?_)
    refine callvP_ #[.pointer (some ⟨gm, 0, none⟩)] Tryd.func139 rfl rfl #[.agg #[.int .i64 (rd Y.f2 0), .int .i64 (rd X.f2 0), .int .i64 0], .pointer (some ⟨gm, 0, none⟩)] rfl rfl rfl rfl (by (try simp only [List.map_toArray, List.map_cons, List.map_nil, List.append_toArray, List.append_nil, List.nil_append, List.cons_append]); rfl) ?_
    refine (demand_calls w0 gm gp o ⟨rd Y.f2 0, rd X.f2 0, 0⟩ _ (HP5.out.keep (below_drew1 (Below.refl _ _))) HQ1.out (by have := HO.out; omega)).mono ?_
    rintro e w8 ⟨rfl, hP_w8, hF_w8⟩
    refine ⟨_, rfl, ?_⟩
    refine hK.out _ _ ?_
    clear hK K
    refine norm_ (a' := ?_) ?_ ?_
    rotate_left
    · show Act.put _ (some 88) _ = _
      simp only [Act.put, List.setIfInBounds_toArray, List.set_cons_zero, List.set_cons_succ, i64_w, i32_w]
      rfl
    refine done_ (by kernel_rfl) ?_
    have HP8 := Aside0.mk hP_w8
    have HF8 := Aside0.mk (FrP.trans (FrP.of_below (below_drew1 (Below.refl _ _))) hF_w8)
    clear hP_w8 hF_w8
    have H68 := Aside0.mk (HF8.out.bl _ _ _ H65.out (by decide) (by decide))
    have H78 := Aside0.mk (HF8.out.bl _ _ _ H75.out (by decide) (by decide))
    try go_wp2
    refine start_ (n := 11) (S := fun w' => w'.cell? ⟨g6, 2, none⟩ = some (.slice (some ax) X.f2.length c2) ∧ w'.cell? ⟨g7, 2, none⟩ = some (.slice (some ay) Y.f2.length d2) ∧ w'.cell? ⟨ax.block, ax.off + 1, none⟩ = some (.int .i64 (rd X.f2 1)) ∧ w'.cell? ⟨ay.block, ay.off + 1, none⟩ = some (.int .i64 (rd Y.f2 1))) (ds := [10]) #[false, false, false, false, false, false, false, false, false, false, false] (by kernel_rfl) rfl rfl ⟨(blk_cell H68.out 2).trans rfl, (blk_cell H78.out 2).trans rfl, pw_cell_below (HP8.out.bel) HKX.out.2, pw_cell_below (HP8.out.bel) HKY.out.2⟩ (fun hHeld => ?_)
    refine pure_ (i := 0) (N := some 89) (v := ?_) (a' := ?_) #[true, false, false, false, false, false, false, false, false, false, false] rfl rfl (by kernel_rfl) (fun _ _ _ h => h) (Or.inl ⟨by rfl, ?_⟩) ?_ ?_
    rotate_left
    · intro w'
      go_simp
      with_reducible rfl
    rotate_left
    · simp only [Act.put, List.setIfInBounds_toArray, List.set_cons_zero, List.set_cons_succ, i64_w, i32_w]
      rfl
    refine pure_ (i := 1) (N := some 90) (v := ?_) (a' := ?_) #[true, true, false, false, false, false, false, false, false, false, false] rfl rfl (by kernel_rfl) (fun _ _ _ h => h) (Or.inl ⟨by rfl, ?_⟩) ?_ ?_
    rotate_left
    · intro w'
      go_simp
      with_reducible rfl
    rotate_left
    · simp only [Act.put, List.setIfInBounds_toArray, List.set_cons_zero, List.set_cons_succ, i64_w, i32_w]
      rfl
    refine take_ (i := 2) (N := some 91) (v := ?_) (a' := ?_) #[true, true, true, false, false, false, false, false, false, false, false] rfl rfl (by kernel_rfl) (fun _ _ _ h => h) (Or.inl ⟨by rfl, ?_⟩) hHeld ?_ ?_
    rotate_left
    · rintro w' ⟨s0, s1, s2, s3⟩
      go_simp
      with_reducible rfl
    rotate_left
    · simp only [Act.put, List.setIfInBounds_toArray, List.set_cons_zero, List.set_cons_succ, i64_w, i32_w]
      rfl
    refine pure_ (i := 3) (N := some 92) (v := ?_) (a' := ?_) #[true, true, true, true, false, false, false, false, false, false, false] rfl rfl (by kernel_rfl) (fun _ _ _ h => h) (Or.inl ⟨by rfl, ?_⟩) ?_ ?_
    rotate_left
    · intro w'
      go_simp
      with_reducible rfl
    rotate_left
    · simp only [Act.put, List.setIfInBounds_toArray, List.set_cons_zero, List.set_cons_succ, i64_w, i32_w]
      rfl
    refine take_ (i := 4) (N := some 93) (v := ?_) (a' := ?_) #[true, true, true, true, true, false, false, false, false, false, false] rfl rfl (by kernel_rfl) (fun _ _ _ h => h) (Or.inl ⟨by rfl, ?_⟩) hHeld ?_ ?_
    rotate_left
    · rintro w' ⟨s0, s1, s2, s3⟩
      go_simp
      with_reducible rfl
    rotate_left
    · simp only [Act.put, List.setIfInBounds_toArray, List.set_cons_zero, List.set_cons_succ, i64_w, i32_w]
      rfl
    refine pure_ (i := 5) (N := some 94) (v := ?_) (a' := ?_) #[true, true, true, true, true, true, false, false, false, false, false] rfl rfl (by kernel_rfl) (fun _ _ _ h => h) (Or.inl ⟨by rfl, ?_⟩) ?_ ?_
    rotate_left
    · intro w'
      go_simp
      with_reducible rfl
    rotate_left
    · simp only [Act.put, List.setIfInBounds_toArray, List.set_cons_zero, List.set_cons_succ, i64_w, i32_w]
      rfl
    refine take_ (i := 6) (N := some 95) (v := ?_) (a' := ?_) #[true, true, true, true, true, true, true, false, false, false, false] rfl rfl (by kernel_rfl) (fun _ _ _ h => h) (Or.inl ⟨by rfl, ?_⟩) hHeld ?_ ?_
    rotate_left
    · rintro w' ⟨s0, s1, s2, s3⟩
      go_simp
      with_reducible rfl
    rotate_left
    · simp only [Act.put, List.setIfInBounds_toArray, List.set_cons_zero, List.set_cons_succ, i64_w, i32_w]
      rfl
    refine pure_ (i := 7) (N := some 96) (v := ?_) (a' := ?_) #[true, true, true, true, true, true, true, true, false, false, false] rfl rfl (by kernel_rfl) (fun _ _ _ h => h) (Or.inl ⟨by rfl, ?_⟩) ?_ ?_
    rotate_left
    · intro w'
      go_simp
      with_reducible rfl
    rotate_left
    · simp only [Act.put, List.setIfInBounds_toArray, List.set_cons_zero, List.set_cons_succ, i64_w, i32_w]
      rfl
    refine take_ (i := 8) (N := some 97) (v := ?_) (a' := ?_) #[true, true, true, true, true, true, true, true, true, false, false] rfl rfl (by kernel_rfl) (fun _ _ _ h => h) (Or.inl ⟨by rfl, ?_⟩) hHeld ?_ ?_
    rotate_left
    · rintro w' ⟨s0, s1, s2, s3⟩
      go_simp
      with_reducible rfl
    rotate_left
    · simp only [Act.put, List.setIfInBounds_toArray, List.set_cons_zero, List.set_cons_succ, i64_w, i32_w]
      rfl
    refine pure_ (i := 9) (N := some 98) (v := ?_) (a' := ?_) #[true, true, true, true, true, true, true, true, true, true, false] rfl rfl (by kernel_rfl) (fun _ _ _ h => h) (Or.inl ⟨by rfl, ?_⟩) ?_ ?_
    rotate_left
    · intro w'
      go_simp
      with_reducible rfl
    rotate_left
    · simp only [Act.put, List.setIfInBounds_toArray, List.set_cons_zero, List.set_cons_succ, i64_w, i32_w]
      rfl
    refine last_ (i := 10) (N := some 99) #[true, true, true, true, true, true, true, true, true, true, true] rfl rfl (by kernel_rfl) (by decide) (fun K hK => ?_)
    refine callvP_ #[.pointer (some ⟨gm, 0, none⟩)] Tryd.func139 rfl rfl #[.agg #[.int .i64 (rd X.f2 1), .int .i64 (rd Y.f2 1), .int .i64 0], .pointer (some ⟨gm, 0, none⟩)] rfl rfl rfl rfl (by (try simp only [List.map_toArray, List.map_cons, List.map_nil, List.append_toArray, List.append_nil, List.nil_append, List.cons_append]); rfl) ?_
    refine (demand_calls w0 gm gp (addP o ⟨rd Y.f2 0, rd X.f2 0, 0⟩) ⟨rd X.f2 1, rd Y.f2 1, 0⟩ _ (HP8.out.keep (below_drew1 (Below.refl _ _))) HQ2.out (by have := addP_len o ⟨rd Y.f2 0, rd X.f2 0, 0⟩; have := HO.out; omega)).mono ?_
    rintro e w9 ⟨rfl, hP_w9, hF_w9⟩
    refine ⟨_, rfl, ?_⟩
    refine hK.out _ _ ?_
    clear hK K
    refine norm_ (a' := ?_) ?_ ?_
    rotate_left
    · show Act.put _ (some 99) _ = _
      simp only [Act.put, List.setIfInBounds_toArray, List.set_cons_zero, List.set_cons_succ, i64_w, i32_w]
      rfl
    refine done_ (by kernel_rfl) ?_
    have HP9 := Aside0.mk hP_w9
    have HF9 := Aside0.mk (FrP.trans (FrP.of_below HB5.out) (FrP.trans HF8.out (FrP.trans (FrP.of_below (below_drew1 (Below.refl _ _))) hF_w9)))
    clear hP_w9 hF_w9
    try go_wp2
    go_ret
    exact ⟨rfl, HP9.out, HF9.out⟩
  rw [if_pos k4] at h
  have k4a : (X.f0 == 3) = true := by simpa using k4
  have k4b : decide (X.f0 = 3) = true := decide_eq_true k4
  have k4c : (X.f0 != 3) = false := by simpa using k4
  clear k4
  have H := Aside0.mk h
  clear h
  go_wp2
  clear hz60 hz70 hz71 k1a k1b k1c k2a k2b k2c k3a k3b k3c k4a k4b k4c
  go_loopg [46] k (fun kq v46 w' => ∃ (i : Nat) (o1 : List PrT), v46 = .int .i64 i ∧ Aside0 (sub_d kq X Y i o1 = some (rr, o')) ∧ Aside0 (kq ≤ k) ∧ Aside0 (PrAt w0 w' gm gp o1) ∧ Aside0 (w'.heap[g6]? = some (.cells #[.int .i64 X.f0, .slice A1 X.f1.length c1, .slice A2 X.f2.length c2] 145 (0, 0))) ∧ Aside0 (w'.heap[g7]? = some (.cells #[.int .i64 Y.f0, .slice B1 Y.f1.length d1, .slice B2 Y.f2.length d2] 145 (0, 0))) ∧ Aside0 (FrP W w'))
  case atStart => exact ⟨0, o, rfl, H, ⟨Nat.le_refl _⟩, ⟨HP.out.keep HB5.out⟩, H65, H75, ⟨FrP.of_below HB5.out⟩⟩
  case round =>
    clear H H65 H75 HP
    obtain ⟨i, o1, rfl, HA, HK, HP, H6, H7, HF⟩ := hrel
    cases gk with
    | zero => exact absurd HA.out (by simp [sub_d])
    | succ k1 =>
      have h := HA.out
      clear HA
      simp only [sub_d] at h
      by_cases hb : o1.length < 1099511627776 ∧ Y.f1.length < 1099511627776
      case neg => rw [if_neg hb] at h; cases h
      rw [if_pos hb] at h
      have HO := Aside0.mk hb
      clear hb
      by_cases hi : i < Y.f1.length
      case neg =>
        rw [if_neg hi] at h
        simp only [Option.some.injEq, Prod.mk.injEq] at h
        obtain ⟨rfl, rfl⟩ := h
        have ql : decide (i < Y.f1.length) = false := decide_eq_false hi
        clear hi
        go_wp2
        go_ret
        exact ⟨rfl, HP.out, HF.out⟩
      rw [if_pos hi] at h
      obtain ⟨⟨p, ok⟩, hbs, h⟩ := Option.bind_eq_some_iff.mp h
      have HW := Aside0.mk (show wrap64 ((i : Int) + 1) = ((i + 1 : Nat) : Int) by have := HO.out.2; unfold wrap64; omega)
      obtain ⟨an, eN, hnm⟩ := Kd.at_string HD.out.1.2 (i : Int) (by omega) (by omega)
      cases eN
      rw [Int.toNat_natCast] at hnm
      replace hnm := pw_cell_below HP.out.bel hnm
      obtain ⟨nm, hn⟩ : ∃ nm, nm = rdOf ByteArray.empty Y.f1 (i : Int) := ⟨_, rfl⟩
      rw [← hn] at hnm hbs
      clear hn
      have HBS := Aside0.mk hbs
      clear hbs
      have p0 : 0 ≤ (i : Int) := by omega
      have q0 : (i : Int) < (Y.f1.length : Int) := by omega
      have ql : decide (i < Y.f1.length) = true := decide_eq_true hi
      have hz61 : wr.cell? ⟨g6, 1, none⟩ = some (.slice A1 X.f1.length c1) := (blk_cell H6.out 1).trans rfl
      cases ok with
      | false =>
        have h' : some (false, o1) = some (rr, o') := by simpa using h
        simp only [Option.some.injEq, Prod.mk.injEq] at h'
        obtain ⟨rfl, rfl⟩ := h'
        clear h hi
        go_wp2_with (first | (go_at_call 109; refine (slices_BinarySearch_string_string.calls k1 A1 c1 X.f1 nm p _ _ (Kd.C_below HC.out.1.2 HP.out.bel) HC.out.1.1 HBS.out).mono ?_; rintro e w6 ⟨rfl, ⟨nd, rfl⟩⟩))
        go_ret
        exact ⟨rfl, HP.out.keep (pw_below_drewN (Below.refl _ _) nd), FrP.trans HF.out (FrP.of_below (pw_below_drewN (Below.refl _ _) nd))⟩
      | true =>
        rw [if_pos rfl] at h
        by_cases hw : ((0 ≤ p ∧ p < (X.f2.length : Int)) ∧ i < Y.f2.length) ∧ (okI (rd X.f2 p) ∧ okI (rd Y.f2 i))
        case neg => rw [if_neg hw] at h; cases h
        rw [if_pos hw] at h
        have HN := Aside0.mk h
        have HQW := Aside0.mk (show PrW ⟨rd X.f2 p, rd Y.f2 i, 0⟩ from ⟨i64wf _ hw.2.1.1 hw.2.1.2, i64wf _ hw.2.2.1 hw.2.2.2, i64wf 0 (by omega) (by omega)⟩)
        obtain ⟨ax, eA, hkx⟩ := Kd.at_int HC.out.2.2 p hw.1.1.1 hw.1.1.2
        obtain ⟨ay, eB, hky⟩ := Kd.at_int HD.out.2.2 (i : Int) (by omega) (by have := hw.1.2; omega)
        cases eA
        cases eB
        rw [Int.toNat_natCast] at hky
        have HKX := Aside0.mk (pw_cell_below HP.out.bel hkx)
        have HKY := Aside0.mk (pw_cell_below HP.out.bel hky)
        have pp := eq_true hw.1.1.1
        have qp := eq_true hw.1.1.2
        have q1 : (i : Int) < (Y.f2.length : Int) := by have := hw.1.2; omega
        have qm : decide (i < Y.f2.length) = true := decide_eq_true hw.1.2
        clear h hi hkx hky hw
        go_wp2_with (first | (go_at_call 109; refine (slices_BinarySearch_string_string.calls k1 A1 c1 X.f1 nm p _ _ (Kd.C_below HC.out.1.2 HP.out.bel) HC.out.1.1 HBS.out).mono ?_; rintro e w6 ⟨rfl, ⟨nd, rfl⟩⟩))
        clear hz61 hnm
        refine start_ (n := 13) (S := fun w' => w'.cell? ⟨g6, 2, none⟩ = some (.slice (some ax) X.f2.length c2) ∧ w'.cell? ⟨g7, 2, none⟩ = some (.slice (some ay) Y.f2.length d2) ∧ w'.cell? (ax.add p.toNat) = some (.int .i64 (rd X.f2 p)) ∧ w'.cell? (ay.add i) = some (.int .i64 (rd Y.f2 i))) (ds := [12]) #[false, false, false, false, false, false, false, false, false, false, false, false, false] (by kernel_rfl) rfl rfl ⟨(blk_cell (blk_drewN H6.out nd) 2).trans rfl, (blk_cell (blk_drewN H7.out nd) 2).trans rfl, pw_cell_below (pw_below_drewN (Below.refl _ _) nd) HKX.out, pw_cell_below (pw_below_drewN (Below.refl _ _) nd) HKY.out⟩ (fun hHeld => ?_)
        refine pure_ (i := 0) (N := some 60) (v := ?_) (a' := ?_) #[true, false, false, false, false, false, false, false, false, false, false, false, false] rfl rfl (by kernel_rfl) (fun _ _ _ h => h) (Or.inl ⟨by rfl, ?_⟩) ?_ ?_
        rotate_left
        · intro w'
          go_simp
          with_reducible rfl
        rotate_left
        · simp only [Act.put, List.setIfInBounds_toArray, List.set_cons_zero, List.set_cons_succ, i64_w, i32_w]
          rfl
        refine pure_ (i := 1) (N := some 61) (v := ?_) (a' := ?_) #[true, true, false, false, false, false, false, false, false, false, false, false, false] rfl rfl (by kernel_rfl) (fun _ _ _ h => h) (Or.inl ⟨by rfl, ?_⟩) ?_ ?_
        rotate_left
        · intro w'
          go_simp
          with_reducible rfl
        rotate_left
        · simp only [Act.put, List.setIfInBounds_toArray, List.set_cons_zero, List.set_cons_succ, i64_w, i32_w]
          rfl
        refine take_ (i := 2) (N := some 62) (v := ?_) (a' := ?_) #[true, true, true, false, false, false, false, false, false, false, false, false, false] rfl rfl (by kernel_rfl) (fun _ _ _ h => h) (Or.inl ⟨by rfl, ?_⟩) hHeld ?_ ?_
        rotate_left
        · rintro w' ⟨s0, s1, s2, s3⟩
          go_simp
          with_reducible rfl
        rotate_left
        · simp only [Act.put, List.setIfInBounds_toArray, List.set_cons_zero, List.set_cons_succ, i64_w, i32_w]
          rfl
        refine pure_ (i := 3) (N := some 63) (v := ?_) (a' := ?_) #[true, true, true, true, false, false, false, false, false, false, false, false, false] rfl rfl (by kernel_rfl) (fun _ _ _ h => h) (Or.inl ⟨by rfl, ?_⟩) ?_ ?_
        rotate_left
        · intro w'
          go_simp
          with_reducible rfl
        rotate_left
        · simp only [Act.put, List.setIfInBounds_toArray, List.set_cons_zero, List.set_cons_succ, i64_w, i32_w]
          rfl
        refine pure_ (i := 4) (N := some 64) (v := ?_) (a' := ?_) #[true, true, true, true, true, false, false, false, false, false, false, false, false] rfl rfl (by kernel_rfl) (fun _ _ _ h => h) (Or.inl ⟨by rfl, ?_⟩) ?_ ?_
        rotate_left
        · intro w'
          go_simp
          with_reducible rfl
        rotate_left
        · simp only [Act.put, List.setIfInBounds_toArray, List.set_cons_zero, List.set_cons_succ, i64_w, i32_w]
          rfl
        refine take_ (i := 5) (N := some 65) (v := ?_) (a' := ?_) #[true, true, true, true, true, true, false, false, false, false, false, false, false] rfl rfl (by kernel_rfl) (fun _ _ _ h => h) (Or.inl ⟨by rfl, ?_⟩) hHeld ?_ ?_
        rotate_left
        · rintro w' ⟨s0, s1, s2, s3⟩
          go_simp
          with_reducible rfl
        rotate_left
        · simp only [Act.put, List.setIfInBounds_toArray, List.set_cons_zero, List.set_cons_succ, i64_w, i32_w]
          rfl
        refine pure_ (i := 6) (N := some 66) (v := ?_) (a' := ?_) #[true, true, true, true, true, true, true, false, false, false, false, false, false] rfl rfl (by kernel_rfl) (fun _ _ _ h => h) (Or.inl ⟨by rfl, ?_⟩) ?_ ?_
        rotate_left
        · intro w'
          go_simp
          with_reducible rfl
        rotate_left
        · simp only [Act.put, List.setIfInBounds_toArray, List.set_cons_zero, List.set_cons_succ, i64_w, i32_w]
          rfl
        refine take_ (i := 7) (N := some 67) (v := ?_) (a' := ?_) #[true, true, true, true, true, true, true, true, false, false, false, false, false] rfl rfl (by kernel_rfl) (fun _ _ _ h => h) (Or.inl ⟨by rfl, ?_⟩) hHeld ?_ ?_
        rotate_left
        · rintro w' ⟨s0, s1, s2, s3⟩
          go_simp
          with_reducible rfl
        rotate_left
        · simp only [Act.put, List.setIfInBounds_toArray, List.set_cons_zero, List.set_cons_succ, i64_w, i32_w]
          rfl
        refine pure_ (i := 8) (N := some 68) (v := ?_) (a' := ?_) #[true, true, true, true, true, true, true, true, true, false, false, false, false] rfl rfl (by kernel_rfl) (fun _ _ _ h => h) (Or.inl ⟨by rfl, ?_⟩) ?_ ?_
        rotate_left
        · intro w'
          go_simp
          with_reducible rfl
        rotate_left
        · simp only [Act.put, List.setIfInBounds_toArray, List.set_cons_zero, List.set_cons_succ, i64_w, i32_w]
          rfl
        refine pure_ (i := 9) (N := some 69) (v := ?_) (a' := ?_) #[true, true, true, true, true, true, true, true, true, true, false, false, false] rfl rfl (by kernel_rfl) (fun _ _ _ h => h) (Or.inl ⟨by rfl, ?_⟩) ?_ ?_
        rotate_left
        · intro w'
          go_simp
          with_reducible rfl
        rotate_left
        · simp only [Act.put, List.setIfInBounds_toArray, List.set_cons_zero, List.set_cons_succ, i64_w, i32_w]
          rfl
        refine take_ (i := 10) (N := some 70) (v := ?_) (a' := ?_) #[true, true, true, true, true, true, true, true, true, true, true, false, false] rfl rfl (by kernel_rfl) (fun _ _ _ h => h) (Or.inl ⟨by rfl, ?_⟩) hHeld ?_ ?_
        rotate_left
        · rintro w' ⟨s0, s1, s2, s3⟩
          go_simp
          with_reducible rfl
        rotate_left
        · simp only [Act.put, List.setIfInBounds_toArray, List.set_cons_zero, List.set_cons_succ, i64_w, i32_w]
          rfl
        refine pure_ (i := 11) (N := some 71) (v := ?_) (a' := ?_) #[true, true, true, true, true, true, true, true, true, true, true, true, false] rfl rfl (by kernel_rfl) (fun _ _ _ h => h) (Or.inl ⟨by rfl, ?_⟩) ?_ ?_
        rotate_left
        · intro w'
          go_simp
          with_reducible rfl
        rotate_left
        · simp only [Act.put, List.setIfInBounds_toArray, List.set_cons_zero, List.set_cons_succ, i64_w, i32_w]
          rfl
        refine last_ (i := 12) (N := some 72) #[true, true, true, true, true, true, true, true, true, true, true, true, true] rfl rfl (by kernel_rfl) (by decide) (fun K hK => ?_)
        refine callvP_ #[.pointer (some ⟨gm, 0, none⟩)] Tryd.func139 rfl rfl #[.agg #[.int .i64 (rd X.f2 p), .int .i64 (rd Y.f2 i), .int .i64 0], .pointer (some ⟨gm, 0, none⟩)] rfl rfl rfl rfl (by (try simp only [List.map_toArray, List.map_cons, List.map_nil, List.append_toArray, List.append_nil, List.nil_append, List.cons_append]); rfl) ?_
        refine (demand_calls w0 gm gp o1 ⟨rd X.f2 p, rd Y.f2 i, 0⟩ _ (HP.out.keep (below_drew1 (pw_below_drewN (Below.refl _ _) nd))) HQW.out HO.out.1).mono ?_
        rintro e w8 ⟨rfl, hP8, hF8⟩
        refine ⟨_, rfl, ?_⟩
        refine hK.out _ _ ?_
        clear hK K
        refine norm_ (a' := ?_) ?_ ?_
        rotate_left
        · show Act.put _ (some 72) _ = _
          simp only [Act.put, List.setIfInBounds_toArray, List.set_cons_zero, List.set_cons_succ, i64_w, i32_w]
          rfl
        refine done_ (by kernel_rfl) ?_
        have HP8 := Aside0.mk hP8
        have HF8 := Aside0.mk hF8
        clear hP8 hF8
        go_wp2
        rw [HW.out]
        go_roundg k1
        case measure => have := HK.out; omega
        case rel => exact ⟨i + 1, _, rfl, HN, ⟨by have := HK.out; omega⟩, HP8, ⟨HF8.out.bl _ _ _ (blk_drew (blk_drewN H6.out nd)) (by decide) (by decide)⟩, ⟨HF8.out.bl _ _ _ (blk_drew (blk_drewN H7.out nd)) (by decide) (by decide)⟩, ⟨FrP.trans HF.out (FrP.trans (FrP.of_below (below_drew1 (pw_below_drewN (Below.refl _ _) nd))) HF8.out)⟩⟩
def impl_Sub.f (k : Nat) (l0 : List NdT) (a b : Int) : Option Bool := (impl_Graph_has.f k l0 [a, b]).bind fun t => (if t = true then (if (-9223372036854775808 ≤ a ∧ a ≤ 9223372036854775807) ∧ (-9223372036854775808 ≤ b ∧ b ≤ 9223372036854775807) then all_l (sub_st l0) k [⟨a, b, 0⟩] 0 else none) else some false)
set_option maxHeartbeats 16000000 in
set_option maxRecDepth 100000 in
theorem impl_Sub.calls (k : Nat) (A0_0 : Option Addr) (c0_0 : Nat) (l0_0 : List NdT) (a1 a2 : Int) (r : Bool) (w : World) (hG : GRes w) (hr0_0 : Kd.C k145 w A0_0 l0_0.length l0_0) (hc0_0 : l0_0.length ≤ c0_0) (h : impl_Sub.f k l0_0 a1 a2 = some r) :
    Calls Tryd.prog 51 #[.agg #[.slice A0_0 l0_0.length c0_0], .int .i64 a1, .int .i64 a2] w fun e w' => e = .returned (.bool r) ∧ Below w.heap.size w w' := by
  have hu1 := Tryd.underlying76
  have hu2 := Tryd.underlying141
  have hmf : ∀ (fn : Fn) (first cap : Array Value) (w : World), (Instr.makeFunc fn first cap).run Tryd.prog w = .ok (.func fn first cap) w := fun _ _ _ _ => rfl
  unfold impl_Sub.f at h
  obtain ⟨t, ht, h⟩ := Option.bind_eq_some_iff.mp h
  have HT := Aside0.mk ht
  have HG := Aside0.mk hG
  have HR := Aside0.mk hr0_0
  have HCC := Aside0.mk hc0_0
  clear ht hG hr0_0 hc0_0
  cases t with
  | false =>
    have h' : false = r := by simpa using h
    subst h'
    clear h
    go_enter Tryd.func51, Tryd.ntmps51
    go_wp2_with (first | ((with_reducible refine gate_dst (N := 10) rfl ?_); refine Kd.R_lit (Kd.int .i64) (w0 := w) w.heap.size 3 ?hg (N := 10) ?hd (xs := ([a1, a2] : List Int)) (inner := [.int .i64 a1, .int .i64 a2]) (ok := fun _ => True) (okp := fun _ => True) ?hr ?hp (fun _ hk => hk) trivial (by repeat (first | exact Below.refl _ _ | apply below_alloc)) (by simp) (by simp) ?_; (case hd => rfl); (case hg => rfl); (case hr => first | (go_simp; done) | (go_simp; rfl)); (case hp => exact (Reps.one (show Kd.M (Kd.int .i64) _ _ _ a1 [.int .i64 a1] from rfl) (Reps.one (show Kd.M (Kd.int .i64) _ _ _ a2 [.int .i64 a2] from rfl) (Reps.none _ _)))); intro v7 w7 ho7 hb7 hg7 _; obtain ⟨A7, c7, rfl⟩ := Kd.R_slice ho7; have HO7 := Aside0.mk ho7; have HB7 := Aside0.mk hb7; have HG7 := Aside0.mk (blk_grown (blk_new w (.cells #[.slice A0_0 l0_0.length c0_0] 76)) hg7 (by simp)); have hz7 : w7.cell? ⟨w.heap.size, 0, none⟩ = some (.slice A0_0 l0_0.length c0_0) := (blk_cell HG7.out 0).trans rfl; clear ho7 hb7 hg7) | (go_at_call 102; refine (impl_Graph_has.calls k A0_0 c0_0 l0_0 A7 c7 [a1, a2] _ _ (GRes.below HG.out HB7.out) (Kd.C_below HR.out HB7.out) HCC.out (Kd.R_reads' HO7.out).2.2 (Kd.R_reads' HO7.out).2.1 HT.out).mono ?_; rintro e w8 ⟨rfl, hb8⟩; have HB8 := Aside0.mk (below_step HB7.out hb8); have HG8 := Aside0.mk (blk_below HG7.out hb8); have hz8 : w8.cell? ⟨w.heap.size, 0, none⟩ = some (.slice A0_0 l0_0.length c0_0) := (blk_cell HG8.out 0).trans rfl; clear hb8))
    go_ret
    exact ⟨rfl, HB8.out⟩
  | true =>
    rw [if_pos rfl] at h
    by_cases hw : (-9223372036854775808 ≤ a1 ∧ a1 ≤ 9223372036854775807) ∧ (-9223372036854775808 ≤ a2 ∧ a2 ≤ 9223372036854775807)
    case neg => rw [if_neg hw] at h; cases h
    rw [if_pos hw] at h
    have HA := Aside0.mk h
    have HQW := Aside0.mk (show PrW ⟨a1, a2, 0⟩ from ⟨i64wf _ hw.1.1 hw.1.2, i64wf _ hw.2.1 hw.2.2, i64wf 0 (by omega) (by omega)⟩)
    clear h hw
    go_enter Tryd.func51, Tryd.ntmps51
    go_wp2_with (first | ((with_reducible refine gate_dst (N := 10) rfl ?_); refine Kd.R_lit (Kd.int .i64) (w0 := w) w.heap.size 3 ?hg (N := 10) ?hd (xs := ([a1, a2] : List Int)) (inner := [.int .i64 a1, .int .i64 a2]) (ok := fun _ => True) (okp := fun _ => True) ?hr ?hp (fun _ hk => hk) trivial (by repeat (first | exact Below.refl _ _ | apply below_alloc)) (by simp) (by simp) ?_; (case hd => rfl); (case hg => rfl); (case hr => first | (go_simp; done) | (go_simp; rfl)); (case hp => exact (Reps.one (show Kd.M (Kd.int .i64) _ _ _ a1 [.int .i64 a1] from rfl) (Reps.one (show Kd.M (Kd.int .i64) _ _ _ a2 [.int .i64 a2] from rfl) (Reps.none _ _)))); intro v7 w7 ho7 hb7 hg7 _; obtain ⟨A7, c7, rfl⟩ := Kd.R_slice ho7; have HO7 := Aside0.mk ho7; have HB7 := Aside0.mk hb7; have HG7 := Aside0.mk (blk_grown (blk_new w (.cells #[.slice A0_0 l0_0.length c0_0] 76)) hg7 (by simp)); have hz7 : w7.cell? ⟨w.heap.size, 0, none⟩ = some (.slice A0_0 l0_0.length c0_0) := (blk_cell HG7.out 0).trans rfl; clear ho7 hb7 hg7) | (go_at_call 102; refine (impl_Graph_has.calls k A0_0 c0_0 l0_0 A7 c7 [a1, a2] _ _ (GRes.below HG.out HB7.out) (Kd.C_below HR.out HB7.out) HCC.out (Kd.R_reads' HO7.out).2.2 (Kd.R_reads' HO7.out).2.1 HT.out).mono ?_; rintro e w8 ⟨rfl, hb8⟩; have HB8 := Aside0.mk (below_step HB7.out hb8); have HG8 := Aside0.mk (blk_below HG7.out hb8); have hz8 : w8.cell? ⟨w.heap.size, 0, none⟩ = some (.slice A0_0 l0_0.length c0_0) := (blk_cell HG8.out 0).trans rfl; clear hb8) | (go_at_call 103; refine (all_calls (sub_st l0_0) 108 Tryd.f108 Tryd.func108 rfl rfl #[.pointer (some ⟨w.heap.size, 0, none⟩)] (fun W => W.heap[w.heap.size]? = some (.cells #[.slice A0_0 l0_0.length c0_0] 76 (0, 0))) (fun W W' hF hI => hF.bl _ _ _ hI (by decide) (by decide)) k A0_0 l0_0.length c0_0 ⟨a1, a2, 0⟩ HQW.out r _ HG8.out (fun k' W gm gp o o' q rr hP hI _ _ hs => sub_step k' w.heap.size A0_0 c0_0 l0_0 w8 (Kd.C_below HR.out HB8.out) W gm gp o o' q rr hP hI hs) HA.out).mono ?_; rintro e w9 ⟨rfl, hb9⟩; have HB9 := Aside0.mk (below_step HB8.out hb9); clear hb9))
    go_ret
    exact ⟨rfl, HB9.out⟩
end Go.Proofs.YtnbohlcibgfjaaaDoor.Gp
end
