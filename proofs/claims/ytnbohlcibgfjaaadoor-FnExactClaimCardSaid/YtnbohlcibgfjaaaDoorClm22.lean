/- A part of the proof of RowFnExactClaim: each text's theorems that it needs, packed by shake.py, a program of this work; Lean checks them. -/
import Derived.Test.YtnbohlcibgfjaaaDoorClm3
import Derived.Test.YtnbohlcibgfjaaaDoorClm18
import Derived.Test.YtnbohlcibgfjaaaDoorClm20
import Derived.Test.YtnbohlcibgfjaaaDoorClm21
section
namespace Go.Proofs.YtnbohlcibgfjaaaDoor.Gp
open Go.RowKit Go.Proofs.YtnbohlcibgfjaaaDoorW.PrintWords Go.Proofs.YtnbohlcibgfjaaaDoorW.PrintLast Go.Proofs.YtnbohlcibgfjaaaDoorW.PrintMore
set_option linter.unusedVariables false
set_option linter.unusedSimpArgs false
theorem mid_getD {α : Type} {L : List α} {m : Nat} (x z : α) (h : m ≤ L.length) : (L.take m ++ x :: L.drop m).getD m z = x := by
 have hl : (L.take m).length = m := by rw [List.length_take, Nat.min_eq_left h]
 rw [List.getD_eq_getElem?_getD, List.getElem?_append_right (by omega), hl, Nat.sub_self]
 rfl
theorem mid_set {α : Type} {L : List α} {m : Nat} (x y : α) (h : m ≤ L.length) : (L.take m ++ x :: L.drop m).set m y = L.take m ++ y :: L.drop m := by
 have hl : (L.take m).length = m := by rw [List.length_take, Nat.min_eq_left h]
 rw [List.set_append_right _ _ (by omega), hl, Nat.sub_self, List.set_cons_zero]
def clRow (q : RwT) (wk rev : Int) : RwT := ⟨⟨q.f0.f0, rev⟩, wrap64 (wk + 1), q.f2, q.f3, q.f4, q.f5, q.f6⟩
def impl_rows_claim.new (L : List RwT) (b0 : Int) (b1 : ByteArray) (wk rev : Int) (p : Int × Bool) : Option (Int × List RwT) := if (0 ≤ p.1 ∧ p.1 ≤ (L.length : Int)) ∧ L.length < 4294967296 then some (0, L.take p.1.toNat ++ clRow (newR b0 b1) wk rev :: L.drop p.1.toNat) else none
def impl_rows_claim.fo (k : Nat) (L : List RwT) (b0 : Int) (b1 : ByteArray) (wk rev cap : Int) : Option Int → Option (Int × List RwT)
 | none => if cap ≤ (L.length : Int) then some (2, L) else (slices_BinarySearchFunc_impl_row_impl_row_impl_Key.f k L b0 b1).bind fun p => impl_rows_claim.new L b0 b1 wk rev p
 | some i => if (rd_T101 L i).f1 ≠ 0 ∧ (rd_T101 L i).f0.f1 = rev then some (1, L) else some (0, L.set i.toNat (clRow (rd_T101 L i) wk rev))
def impl_rows_claim.f (k : Nat) (L : List RwT) (b0 : Int) (b1 : ByteArray) (wk rev cap : Int) : Option (Int × List RwT) := (impl_ordered_impl_Key_impl_row_find.f k L b0 b1).bind fun o => impl_rows_claim.fo k L b0 b1 wk rev cap o
set_option maxHeartbeats 16000000 in
set_option maxRecDepth 100000 in
theorem impl_rows_claim.claim (k g : Nat) (L : List RwT) (b0 : Int) (b1 : ByteArray) (wk rev cap : Int) (c : Int) (L' : List RwT) (w0 w : World) (hR : RowsAt w0 w g L) (h : impl_rows_claim.f k L b0 b1 wk rev cap = some (c, L')) :
 Calls Tryd.prog 93 #[.pointer (some ⟨g, 0, none⟩), .agg #[.int .i64 b0, .string b1], .int .i64 wk, .int .i64 rev, .int .i64 cap] w fun e w' => e = .returned (.int .i64 c) ∧ RowsAt w0 w' g L' := by
 have hu1 := Tryd.underlying101
 have hu2 := Tryd.underlying29
 have hu3 := Tryd.underlying99
 have hu4 := Tryd.underlying95
 have hu5 := Tryd.underlying97
 have hu6 := Tryd.underlying91
 unfold impl_rows_claim.f at h
 obtain ⟨o, ho, h⟩ := Option.bind_eq_some_iff.mp h
 have LEg := Aside0.mk hR.le
 have HBel := Aside0.mk hR.bel
 obtain ⟨v, hv, hs⟩ := hR.hg
 obtain ⟨A, cA, rfl⟩ := Kd.S_slice hs
 have HOR := Aside0.mk (show OrdAt w g A cA L from ⟨(blk_cell hv 0).trans rfl, (blk_cell hv 1).trans rfl, (blk_cell hv 2).trans rfl, (Kd.S_reads' hs).2.2⟩)
 have HV := Aside0.mk hv
 have HS := Aside0.mk hs
 have HF := Aside0.mk ho
 have H := Aside0.mk h
 clear hR hv hs ho h
 go_enter Tryd.func93, Tryd.ntmps93
 go_wp2
 obtain ⟨W2, hW2⟩ : ∃ W2 : World, W2 = w.alloc (.cells #[.int .i64 b0, .string b1] 29) := ⟨_, rfl⟩
 rw [← hW2]
 have hb2 : Below w.heap.size w W2 := by rw [hW2]; exact below_alloc (Below.refl _ _) _
 have hx9 : W2.heap[w.heap.size]? = some (.cells #[.int .i64 b0, .string b1] 29 (0, 0)) := by rw [hW2]; exact blk_new _ _
 clear hW2
 have HB2 := Aside0.mk hb2
 have HX9 := Aside0.mk hx9
 clear hb2 hx9
 refine start_ (n := 6) (S := fun w' => w'.cell? ⟨w.heap.size, 0, none⟩ = some (.int .i64 b0) ∧ w'.cell? ⟨w.heap.size, 1, none⟩ = some (.string b1)) (ds := []) #[false, false, false, false, false, false] (by kernel_rfl) rfl rfl ⟨(blk_cell HX9.out 0).trans rfl, (blk_cell HX9.out 1).trans rfl⟩ (fun hHeld => ?_)
 refine pureY (i := 0) (N := some 12) (v := ?_) (a' := ?_) #[true, false, false, false, false, false] rfl rfl (by kernel_rfl) ⟨by rfl, ?_⟩ ?_ ?_
 rotate_left
 · intro w'
   go_simp
   with_reducible rfl
 rotate_left
 · simp only [Act.put, sA_, i64_w, i32_w]
   rfl
 refine pureY (i := 1) (N := some 13) (v := ?_) (a' := ?_) #[true, true, false, false, false, false] rfl rfl (by kernel_rfl) ⟨by rfl, ?_⟩ ?_ ?_
 rotate_left
 · intro w'
   go_simp
   with_reducible rfl
 rotate_left
 · simp only [Act.put, sA_, i64_w, i32_w]
   rfl
 refine pureY (i := 2) (N := some 14) (v := ?_) (a' := ?_) #[true, true, true, false, false, false] rfl rfl (by kernel_rfl) ⟨by rfl, ?_⟩ ?_ ?_
 rotate_left
 · intro w'
   go_simp
   with_reducible rfl
 rotate_left
 · simp only [Act.put, sA_, i64_w, i32_w]
   rfl
 refine takeY (i := 3) (N := some 15) (v := ?_) (a' := ?_) #[true, true, true, true, false, false] rfl rfl (by kernel_rfl) ⟨by rfl, ?_⟩ hHeld ?_ ?_
 rotate_left
 · rintro w' ⟨s0, s1⟩
   go_simp
   with_reducible rfl
 rotate_left
 · simp only [Act.put, sA_, i64_w, i32_w]
   rfl
 refine one_ (i := 4) (N := some 16) #[true, true, true, true, true, false] rfl rfl (by kernel_rfl) (by decide) (fun K hK => ?_)
 refine goes_ Tryd.func59 rfl rfl #[.pointer (some ⟨g, 0, none⟩), .agg #[.int .i64 b0, .string b1]] rfl rfl rfl (by (try simp only [List.map_toArray, List.map_cons, List.map_nil, List.append_toArray, List.append_nil, List.nil_append, List.cons_append]); rfl) ?_
 refine (impl_ordered_impl_Key_impl_row_find.find k A cA L b0 b1 g o _ ((HOR.out.keep HB2.out).keep (below_drew1 (Below.refl _ _))) HF.out).mono ?_
 rintro e w8 ⟨rfl, hb8, hrg⟩
 refine ⟨_, rfl, ?_⟩
 refine hK.out _ _ ⟨pw_cell_below hb8 hHeld.1, pw_cell_below hb8 hHeld.2⟩ (fun hHeld => ?_)
 clear hK K
 refine norm_ (a' := ?_) ?_ ?_
 rotate_left
 · show Act.put _ (some 16) _ = _
   simp only [Act.put, sA_, i64_w, i32_w]
   rfl
 have hb0 : Below w.heap.size w w8 := below_step (below_drew1 HB2.out) hb8
 have HV8 := Aside0.mk (blk_below HV.out hb0)
 have HS8 := Aside0.mk (Kd.S_below HS.out hb0)
 have HB8 := Aside0.mk (below_step HBel.out hb0)
 have HRG := Aside0.mk hrg
 clear hb0 hb8 hrg
 refine pureY (i := 5) (N := some 11) (v := ?_) (a' := ?_) #[true, true, true, true, true, true] rfl rfl (by kernel_rfl) ⟨by rfl, ?_⟩ ?_ ?_
 rotate_left
 · intro w'
   go_simp
   with_reducible rfl
 rotate_left
 · simp only [Act.put, sA_, i64_w, i32_w]
   rfl
 refine done_ (by kernel_rfl) ?_
 cases o with
 | none =>
  have hp : ptrRow A none = .pointer none := by cases A <;> rfl
  rw [hp]
  clear hp
  have HH := Aside0.mk hHeld
  clear hHeld
  have h := H.out
  clear H
  change impl_rows_claim.fo k L b0 b1 wk rev cap none = _ at h
  rw [impl_rows_claim.fo] at h
  have hz0 : w8.cell? ⟨g, 0, none⟩ = some (.slice A L.length cA) := (blk_cell HV8.out 0).trans rfl
  by_cases c1 : cap ≤ (L.length : Int)
  case pos =>
   rw [if_pos c1] at h
   have c1b : decide (cap ≤ (L.length : Int)) = true := decide_eq_true c1
   clear c1
   injection h with h
   injection h with h1 h2
   subst h1 h2
   go_wp2
   go_ret
   exact ⟨rfl, ⟨⟨_, HV8.out, HS8.out⟩, LEg.out, HB8.out⟩⟩
  rw [if_neg c1] at h
  have c1b : decide (cap ≤ (L.length : Int)) = false := decide_eq_false c1
  clear c1
  obtain ⟨⟨p, fd⟩, hp, h⟩ := Option.bind_eq_some_iff.mp h
  unfold impl_rows_claim.new at h
  simp only at h
  by_cases c2 : (0 ≤ p ∧ p ≤ (L.length : Int)) ∧ L.length < 4294967296
  case neg => rw [if_neg c2] at h; cases h
  rw [if_pos c2] at h
  obtain ⟨m, rfl⟩ : ∃ m : Nat, p = (m : Int) := ⟨p.toNat, by have := c2.1.1; omega⟩
  rw [Int.toNat_natCast] at h
  have HM := Aside0.mk (show m ≤ L.length by have := c2.1.2; omega)
  have HBig := Aside0.mk c2.2
  have HP := Aside0.mk hp
  injection h with h
  injection h with h1 h2
  subst h1
  have HE := Aside0.mk h2
  clear hp h2 c2
  go_wp2
  refine start_ (n := 8) (S := fun w' => w'.cell? ⟨w.heap.size, 0, none⟩ = some (.int .i64 b0) ∧ w'.cell? ⟨w.heap.size, 1, none⟩ = some (.string b1)) (ds := [6]) #[false, false, false, false, false, false, false, false] (by kernel_rfl) rfl rfl HH.out (fun hHeld => ?_)
  refine pureY (i := 0) (N := some 52) (v := ?_) (a' := ?_) #[true, false, false, false, false, false, false, false] rfl rfl (by kernel_rfl) ⟨by rfl, ?_⟩ ?_ ?_
  rotate_left
  · intro w'
    go_simp
    with_reducible rfl
  rotate_left
  · simp only [Act.put, sA_, i64_w, i32_w]
    rfl
  refine pureY (i := 1) (N := some 53) (v := ?_) (a' := ?_) #[true, true, false, false, false, false, false, false] rfl rfl (by kernel_rfl) ⟨by rfl, ?_⟩ ?_ ?_
  rotate_left
  · intro w'
    go_simp
    with_reducible rfl
  rotate_left
  · simp only [Act.put, sA_, i64_w, i32_w]
    rfl
  refine pureY (i := 2) (N := some 54) (v := ?_) (a' := ?_) #[true, true, true, false, false, false, false, false] rfl rfl (by kernel_rfl) ⟨by rfl, ?_⟩ ?_ ?_
  rotate_left
  · intro w'
    go_simp
    with_reducible rfl
  rotate_left
  · simp only [Act.put, sA_, i64_w, i32_w]
    rfl
  refine takeY (i := 3) (N := some 55) (v := ?_) (a' := ?_) #[true, true, true, true, false, false, false, false] rfl rfl (by kernel_rfl) ⟨by rfl, ?_⟩ hHeld ?_ ?_
  rotate_left
  · rintro w' ⟨s0, s1⟩
    go_simp
    with_reducible rfl
  rotate_left
  · simp only [Act.put, sA_, i64_w, i32_w]
    rfl
  refine pureY (i := 4) (N := some 56) (v := ?_) (a' := ?_) #[true, true, true, true, true, false, false, false] rfl rfl (by kernel_rfl) ⟨by rfl, ?_⟩ ?_ ?_
  rotate_left
  · intro w'
    go_simp
    with_reducible rfl
  rotate_left
  · simp only [Act.put, sA_, i64_w, i32_w]
    rfl
  refine pureY (i := 5) (N := some 57) (v := ?_) (a' := ?_) #[true, true, true, true, true, true, false, false] rfl rfl (by kernel_rfl) ⟨by rfl, ?_⟩ ?_ ?_
  rotate_left
  · intro w'
    go_simp
    with_reducible rfl
  rotate_left
  · simp only [Act.put, sA_, i64_w, i32_w]
    rfl
  refine last_ (i := 6) (N := some 58) #[true, true, true, true, true, true, true, false] rfl rfl (by kernel_rfl) (by decide) (fun K hK => ?_)
  refine goes_ Tryd.func128 rfl rfl #[.pointer (some ⟨g, 0, none⟩), .agg #[.int .i64 b0, .string b1, .int .i64 0, .int .i64 0, .bool false, .string ⟨#[]⟩, .slice none 0 0, .int .i64 0, .int .i64 0]] rfl rfl rfl (by (try simp only [List.map_toArray, List.map_cons, List.map_nil, List.append_toArray, List.append_nil, List.nil_append, List.cons_append]); rfl) ?_
  refine (impl_ordered_impl_Key_impl_row_insert.insert k g m fd L b0 b1 A cA w0 _ (blk_drew HV8.out) (Kd.S_below HS8.out (below_drew1 (Below.refl _ _))) LEg.out (below_drew HB8.out) HP.out HM.out HBig.out).mono ?_
  rintro e w9 ⟨gR, c, rfl, hv9, hs9, hb9⟩
  refine ⟨_, rfl, ?_⟩
  refine hK.out _ _ ?_
  clear hK K
  refine norm_ (a' := ?_) ?_ ?_
  rotate_left
  · show Act.put _ (some 58) _ = _
    simp only [Act.put, sA_, i64_w, i32_w]
    rfl
  refine pureY (i := 7) (N := some 11) (v := ?_) (a' := ?_) #[true, true, true, true, true, true, true, true] rfl rfl (by kernel_rfl) ⟨by rfl, ?_⟩ ?_ ?_
  rotate_left
  · intro w'
    go_simp
    with_reducible rfl
  rotate_left
  · simp only [Act.put, sA_, i64_w, i32_w]
    rfl
  refine done_ (by kernel_rfl) ?_
  clear hHeld hz0
  have hneG : g ≠ gR := fun e => Kd.S_ne hs9 hv9 (by decide) (by rw [e]; simp [Value.ownBlock])
  have HNE := Aside0.mk hneG
  clear hneG
  have hil : (m : Int) < ((L.length + 1 : Nat) : Int) := by have := HM.out; omega
  obtain ⟨oki, cc, hM, hol⟩ := Hol.start (i := (m : Int)) (wi := w9) hs9 z101 (by omega) hil (Kept.refl _ _) hb9
  rw [Int.toNat_natCast, mid_getD _ _ HM.out] at hM
  obtain ⟨v6, rfl, hR6⟩ := k101_openM hM
  clear hM
  obtain ⟨A6, c6, rfl⟩ := Kd.R_slice hR6
  change Hol _ _ _ _ _ _ _ _ _ _ _ _ [.int .i64 b0, .string b1, .int .i64 0, .int .i64 0, .bool false, .string ⟨#[]⟩, .slice A6 0 c6, .int .i64 0, .int .i64 0] at hol
  change Kd.R _ _ _ _ _ (.slice A6 0 c6) [] at hR6
  have H0 := Aside0.mk hol
  have R0 := Aside0.mk hR6
  have HV9 := Aside0.mk hv9
  clear hR6 hv9 hs9 hb9 hil
  have hx2 : w9.cell? ⟨gR, m * 9 + 2, none⟩ = some (.int .i64 0) := hol.cell (j := 2) rfl
  have hx3 : w9.cell? ⟨gR, m * 9 + 3, none⟩ = some (.int .i64 0) := hol.cell (j := 3) rfl
  have hy2 := hol.frozen (m * 9 + 2)
  have hy3 := hol.frozen (m * 9 + 3)
  clear hol
  go_wp2
  go_ret
  obtain ⟨WB, hWB⟩ : ∃ W_ : World, W_ = w9.setCell ⟨gR, m * 9 + 3, none⟩ (.int .i64 (wrap64 (wk + 1))) := ⟨_, rfl⟩
  rw [← hWB]
  have HBh : Hol k101 101 w0 w9 WB (fun _ => True) gR (L.length + 1) c (L.take m ++ newR b0 b1 :: L.drop m) (m : Int) oki [.int .i64 b0, .string b1, .int .i64 0, .int .i64 (wrap64 (wk + 1)), .bool false, .string ⟨#[]⟩, .slice A6 0 c6, .int .i64 0, .int .i64 0] := by rw [hWB]; exact H0.out.put 3 (.int .i64 (wrap64 (wk + 1))) (by decide) rfl rfl
  have RBh : Kd.R k29 29 WB w0.heap.size oki (.slice A6 0 c6) [] := by rw [hWB]; exact H0.out.innerSet R0.out _ _
  obtain ⟨WC, hWC⟩ : ∃ W_ : World, W_ = WB.setCell ⟨gR, m * 9 + 2, none⟩ (.int .i64 rev) := ⟨_, rfl⟩
  rw [← hWC]
  have HCh : Hol k101 101 w0 w9 WC (fun _ => True) gR (L.length + 1) c (L.take m ++ newR b0 b1 :: L.drop m) (m : Int) oki [.int .i64 b0, .string b1, .int .i64 rev, .int .i64 (wrap64 (wk + 1)), .bool false, .string ⟨#[]⟩, .slice A6 0 c6, .int .i64 0, .int .i64 0] := by rw [hWC]; exact HBh.put 2 (.int .i64 rev) (by decide) rfl rfl
  have RCh : Kd.R k29 29 WC w0.heap.size oki (.slice A6 0 c6) [] := by rw [hWC]; exact HBh.innerSet RBh _ _
  have hvC := blk_far (blk_far HV9.out (p := ⟨gR, m * 9 + 3, none⟩) HNE.out (.int .i64 (wrap64 (wk + 1)))) (p := ⟨gR, m * 9 + 2, none⟩) HNE.out (.int .i64 rev)
  rw [← hWB, ← hWC] at hvC
  have hS := HCh.back (k101_mkM WC w0.heap.size oki (clRow (newR b0 b1) wk rev) RCh) (fun _ h => h)
  rw [Int.toNat_natCast, mid_set _ _ HM.out] at hS
  rw [← HE.out]
  exact ⟨rfl, ⟨⟨_, hvC, hS⟩, LEg.out, HCh.bel⟩⟩
 | some i =>
  clear hHeld
  obtain ⟨g0, g1⟩ := HRG.out i rfl
  have h := H.out
  clear H
  change impl_rows_claim.fo k L b0 b1 wk rev cap (some i) = _ at h
  rw [impl_rows_claim.fo] at h
  obtain ⟨gR, capR, hvR, _⟩ := Kd.S_form HS8.out (by omega)
  injection hvR with hAR hnR hcR
  subst hAR hcR
  clear hnR
  have hneG : g ≠ gR := fun e => Kd.S_ne HS8.out HV8.out (by decide) (by rw [e]; simp [Value.ownBlock])
  have HNE := Aside0.mk hneG
  clear hneG
  obtain ⟨oki, cc, hM, hol⟩ := Hol.start (i := i) (wi := w8) HS8.out z101 g0 g1 (Kept.refl _ _) HB8.out
  obtain ⟨v6, rfl, hR6⟩ := k101_openM hM
  clear hM
  change Hol _ _ _ _ _ _ _ _ _ _ _ _ [.int .i64 (rd_T101 L i).f0.f0.f0, .string (rd_T101 L i).f0.f0.f1, .int .i64 (rd_T101 L i).f0.f1, .int .i64 (rd_T101 L i).f1, .bool (rd_T101 L i).f2, .string (rd_T101 L i).f3, v6, .int .i64 (rd_T101 L i).f5, .int .i64 (rd_T101 L i).f6] at hol
  change Kd.R _ _ _ _ _ _ (rd_T101 L i).f4 at hR6
  obtain ⟨q, hq⟩ : ∃ q, q = rd_T101 L i := ⟨_, rfl⟩
  rw [← hq] at hol hR6
  try rw [← hq] at h
  clear hq
  obtain ⟨A6, c6, rfl⟩ := Kd.R_slice hR6
  obtain ⟨o, ho⟩ : ∃ o, o = i.toNat * 9 := ⟨_, rfl⟩
  have hx2 : w8.cell? ⟨gR, o + 2, none⟩ = some (.int .i64 q.f0.f1) := by rw [ho]; exact hol.cell (j := 2) rfl
  have hx3 : w8.cell? ⟨gR, o + 3, none⟩ = some (.int .i64 q.f1) := by rw [ho]; exact hol.cell (j := 3) rfl
  have hx4 : w8.cell? ⟨gR, o + 4, none⟩ = some (.bool q.f2) := by rw [ho]; exact hol.cell (j := 4) rfl
  have hx7 : w8.cell? ⟨gR, o + 7, none⟩ = some (.int .i64 q.f5) := by rw [ho]; exact hol.cell (j := 7) rfl
  have hy2 : w8.frozen? ⟨gR, o + 2, none⟩ = false := hol.frozen _
  have hy3 : w8.frozen? ⟨gR, o + 3, none⟩ = false := hol.frozen _
  have hy7 : w8.frozen? ⟨gR, o + 7, none⟩ = false := hol.frozen _
  simp only [ptrRow, addr_at]
  rw [← ho]
  have HO := Aside0.mk ho
  have H0 := Aside0.mk hol
  have R0 := Aside0.mk hR6
  clear ho hol hR6
  clear g0 g1 hx4 hx7 hy7
  by_cases c1 : q.f1 ≠ 0
  case neg =>
   rw [if_neg (fun x => c1 x.1)] at h
   have HE := Aside0.mk h
   clear h
   have c1b : (q.f1 != 0) = false := bne_eq_false_iff_eq.2 (by simpa using c1)
   clear c1
   go_wp2
   go_ret
   obtain ⟨WB, hWB⟩ : ∃ W_ : World, W_ = w8.setCell ⟨gR, o + 3, none⟩ (.int .i64 (wrap64 (wk + 1))) := ⟨_, rfl⟩
   rw [← hWB]
   have HBh : Hol k101 101 w0 w8 WB (fun _ => True) gR L.length cA L i oki [.int .i64 q.f0.f0.f0, .string q.f0.f0.f1, .int .i64 q.f0.f1, .int .i64 (wrap64 (wk + 1)), .bool q.f2, .string q.f3, .slice A6 q.f4.length c6, .int .i64 q.f5, .int .i64 q.f6] := by rw [hWB, HO.out]; exact H0.out.put 3 (.int .i64 (wrap64 (wk + 1))) (by decide) rfl rfl
   have RBh : Kd.R k29 29 WB w0.heap.size oki (.slice A6 q.f4.length c6) q.f4 := by rw [hWB]; exact H0.out.innerSet R0.out _ _
   obtain ⟨WC, hWC⟩ : ∃ W_ : World, W_ = WB.setCell ⟨gR, o + 2, none⟩ (.int .i64 rev) := ⟨_, rfl⟩
   rw [← hWC]
   have HCh : Hol k101 101 w0 w8 WC (fun _ => True) gR L.length cA L i oki [.int .i64 q.f0.f0.f0, .string q.f0.f0.f1, .int .i64 rev, .int .i64 (wrap64 (wk + 1)), .bool q.f2, .string q.f3, .slice A6 q.f4.length c6, .int .i64 q.f5, .int .i64 q.f6] := by rw [hWC, HO.out]; exact HBh.put 2 (.int .i64 rev) (by decide) rfl rfl
   have RCh : Kd.R k29 29 WC w0.heap.size oki (.slice A6 q.f4.length c6) q.f4 := by rw [hWC]; exact HBh.innerSet RBh _ _
   have hvC := blk_far (blk_far HV8.out (p := ⟨gR, o + 3, none⟩) HNE.out (.int .i64 (wrap64 (wk + 1)))) (p := ⟨gR, o + 2, none⟩) HNE.out (.int .i64 rev)
   rw [← hWB, ← hWC] at hvC
   have hS := HCh.back (k101_mkM WC w0.heap.size oki (clRow q wk rev) RCh) (fun _ h => h)
   have h := HE.out
   injection h with h
   injection h with h1 h2
   subst h1 h2
   exact ⟨rfl, ⟨⟨_, hvC, hS⟩, LEg.out, HCh.bel⟩⟩
  by_cases c2 : q.f0.f1 = rev
  case neg =>
   rw [if_neg (fun x => c2 x.2)] at h
   have HE := Aside0.mk h
   clear h
   have c1b : (q.f1 != 0) = true := bne_iff_ne.2 c1
   have c2b : (q.f0.f1 == rev) = false := beq_eq_false_iff_ne.2 c2
   clear c1 c2
   go_wp2
   go_ret
   obtain ⟨WB, hWB⟩ : ∃ W_ : World, W_ = w8.setCell ⟨gR, o + 3, none⟩ (.int .i64 (wrap64 (wk + 1))) := ⟨_, rfl⟩
   rw [← hWB]
   have HBh : Hol k101 101 w0 w8 WB (fun _ => True) gR L.length cA L i oki [.int .i64 q.f0.f0.f0, .string q.f0.f0.f1, .int .i64 q.f0.f1, .int .i64 (wrap64 (wk + 1)), .bool q.f2, .string q.f3, .slice A6 q.f4.length c6, .int .i64 q.f5, .int .i64 q.f6] := by rw [hWB, HO.out]; exact H0.out.put 3 (.int .i64 (wrap64 (wk + 1))) (by decide) rfl rfl
   have RBh : Kd.R k29 29 WB w0.heap.size oki (.slice A6 q.f4.length c6) q.f4 := by rw [hWB]; exact H0.out.innerSet R0.out _ _
   obtain ⟨WC, hWC⟩ : ∃ W_ : World, W_ = WB.setCell ⟨gR, o + 2, none⟩ (.int .i64 rev) := ⟨_, rfl⟩
   rw [← hWC]
   have HCh : Hol k101 101 w0 w8 WC (fun _ => True) gR L.length cA L i oki [.int .i64 q.f0.f0.f0, .string q.f0.f0.f1, .int .i64 rev, .int .i64 (wrap64 (wk + 1)), .bool q.f2, .string q.f3, .slice A6 q.f4.length c6, .int .i64 q.f5, .int .i64 q.f6] := by rw [hWC, HO.out]; exact HBh.put 2 (.int .i64 rev) (by decide) rfl rfl
   have RCh : Kd.R k29 29 WC w0.heap.size oki (.slice A6 q.f4.length c6) q.f4 := by rw [hWC]; exact HBh.innerSet RBh _ _
   have hvC := blk_far (blk_far HV8.out (p := ⟨gR, o + 3, none⟩) HNE.out (.int .i64 (wrap64 (wk + 1)))) (p := ⟨gR, o + 2, none⟩) HNE.out (.int .i64 rev)
   rw [← hWB, ← hWC] at hvC
   have hS := HCh.back (k101_mkM WC w0.heap.size oki (clRow q wk rev) RCh) (fun _ h => h)
   have h := HE.out
   injection h with h
   injection h with h1 h2
   subst h1 h2
   exact ⟨rfl, ⟨⟨_, hvC, hS⟩, LEg.out, HCh.bel⟩⟩
  rw [if_pos ⟨c1, c2⟩] at h
  injection h with h
  injection h with h1 h2
  subst h1 h2
  have c1b : (q.f1 != 0) = true := bne_iff_ne.2 c1
  have c2b : (q.f0.f1 == rev) = true := beq_iff_eq.2 c2
  clear c1 c2
  go_wp2
  go_ret
  exact ⟨rfl, ⟨⟨_, HV8.out, HS8.out⟩, LEg.out, HB8.out⟩⟩
def impl_row_slot.f (a0_0 : Int) (a0_1 : ByteArray) (a0_2 : Int) (a0_3 : Int) (a0_4 : Bool) (a0_5 : ByteArray) (l0_6 : List (S29)) (a0_7 : Int) (a0_8 : Int) : Option (Int × ByteArray × Bool × ByteArray × (List (S29)) × Int × Int × Int × Int) := (slices_Clone_impl_Key_impl_Key.f l0_6).bind fun t351 => (some (a0_0, a0_1, a0_4, a0_5, t351, a0_7, a0_8, a0_3, a0_2))
def impl_row_slot.T1 : Bool × List (List Nat × List Nat) := (true, [([], []), ([0], [0]), ([1], [1]), ([], []), ([3], [3]), ([], []), ([5], [5]), ([], []), ([7], [7]), ([8], [8]), ([], []), ([10], [10]), ([], []), ([12], [12]), ([], []), ([14], [14]), ([], []), ([16], [16]), ([17], [17]), ([2, 4, 6, 9, 11, 13, 15, 18], [2, 4, 6, 9, 11, 13, 15, 18]), ([19, 9, 0, 1, 2, 3, 4, 5, 6, 7, 8, 9, 10, 11, 12, 13, 14, 15, 16, 17, 18, 19], [19])])
def impl_row_slot.B1 : List Nat := [0, 1, 3, 0, 8, 0, 32, 0, 128, 384, 0, 1024, 0, 4096, 0, 16384, 0, 65536, 196608, 524287, 1048575]
theorem impl_row_slot.tab1 : rtab .any (opsOf Tryd.f60 1) = impl_row_slot.T1 := by kernel_rfl
theorem impl_row_slot.bits1 : waitsOk impl_row_slot.T1.2 impl_row_slot.B1 = true := by kernel_rfl
set_option maxHeartbeats 8000000 in
set_option maxRecDepth 100000 in
theorem impl_row_slot.calls (a0_0 : Int) (a0_1 : ByteArray) (a0_2 : Int) (a0_3 : Int) (a0_4 : Bool) (a0_5 : ByteArray) (A0_6 : Option Addr) (c0_6 : Nat) (l0_6 : List (S29)) (a0_7 : Int) (a0_8 : Int) (r1 : Int) (r2 : ByteArray) (r3 : Bool) (r4 : ByteArray) (r5 : List (S29)) (r6 : Int) (r7 : Int) (r8 : Int) (r9 : Int) (w : World) (hr0_6 : Kd.C k29 w A0_6 l0_6.length l0_6) (hc0_6 : l0_6.length ≤ c0_6) (h : impl_row_slot.f a0_0 a0_1 a0_2 a0_3 a0_4 a0_5 l0_6 a0_7 a0_8 = some (r1, r2, r3, r4, r5, r6, r7, r8, r9)) :
 Calls Tryd.prog 60 #[.agg #[.int .i64 a0_0, .string a0_1, .int .i64 a0_2, .int .i64 a0_3, .bool a0_4, .string a0_5, .slice A0_6 l0_6.length c0_6, .int .i64 a0_7, .int .i64 a0_8]] w fun e w' => ∃ v4_ : Value, e = .returned (.agg #[.int .i64 r1, .string r2, .bool r3, .string r4, v4_, .int .i64 r6, .int .i64 r7, .int .i64 r8, .int .i64 r9]) ∧ Kd.R k29 29 w' w.heap.size (fun _ => True) v4_ r5 ∧ Below w.heap.size w w' := by
 have hu101 := Tryd.underlying101
 have hu32 := Tryd.underlying32
 have hu29 := Tryd.underlying29
 have HR0_6 := Aside0.mk hr0_6
 have HC0_6 := Aside0.mk hc0_6
 clear hr0_6 hc0_6
 have HB := Aside0.mk (Below.refl w.heap.size w)
 have H : ((slices_Clone_impl_Key_impl_Key.f l0_6).bind fun t351 => (some (a0_0, a0_1, a0_4, a0_5, t351, a0_7, a0_8, a0_3, a0_2))) = some (r1, r2, r3, r4, r5, r6, r7, r8, r9) := h
 clear h
 replace H := Option.bind_eq_some_iff.mp H
 obtain ⟨t351, A20, H⟩ := H
 replace H : (some (a0_0, a0_1, a0_4, a0_5, t351, a0_7, a0_8, a0_3, a0_2)) = some (r1, r2, r3, r4, r5, r6, r7, r8, r9) := H
 have A2 := Aside0.mk A20
 clear A20
 simp only [Option.some.injEq, Prod.mk.injEq] at H
 obtain ⟨rfl, rfl, rfl, rfl, rfl, rfl, rfl, rfl, rfl⟩ := H
 go_enter Tryd.func60, Tryd.ntmps60
 try go_wp2_with (first | ((with_reducible refine gate_dst (N := 1) rfl ?_); refine box_event ?hg (N := 1) ?hd (cs := #[.int .i64 a0_0, .string a0_1, .int .i64 a0_2, .int .i64 a0_3, .bool a0_4, .string a0_5, .slice A0_6 l0_6.length c0_6, .int .i64 a0_7, .int .i64 a0_8]) (t := 101) ?hr ?_; (case hd => rfl); (case hg => rfl); (case hr => first | (go_simp; done) | (go_simp; rfl)); intro gb349 hg w3 hbox hb; have hb1_ := fromQ HB.out hb; have hb0_ := below_step hb1_ hb; have hW_ := below_step HB.out hb1_; have n1_ := Aside0.mk (hbox); have n2_ := szle hg hW_; have n3_ := szle hg hW_; replace HB := kH HB hb0_; have BK349 := n1_; have GW349 := n2_; have GE349 := n3_; clear hb1_ hb0_ hW_ n1_ n2_ n3_; clear hb hbox hg) | ((with_reducible refine gate_dst (N := 2) rfl ?_); refine box_event ?hg (N := 2) ?hd (cs := #[.int .i64 0, .string (⟨#[]⟩ : ByteArray), .bool false, .string (⟨#[]⟩ : ByteArray), .slice none 0 0, .int .i64 0, .int .i64 0, .int .i64 0, .int .i64 0]) (t := 32) ?hr ?_; (case hd => rfl); (case hg => rfl); (case hr => first | (go_simp; done) | (go_simp; rfl)); intro gb350 hg w4 hbox hb; have hb1_ := fromQ HB.out hb; have hb0_ := below_step hb1_ hb; have hW_ := below_step HB.out hb1_; have n2_ := Aside0.mk (hbox); have n3_ := szle hg hW_; have n4_ := szle hg hW_; have n5_ := nelt hg BK349 hb1_; have n6_ := negt hg BK349 hb1_; replace BK349 := kB BK349 hb0_; replace HB := kH HB hb0_; have BK350 := n2_; have GW350 := n3_; have GE350 := n4_; have NB349_350 := n5_; have NB350_349 := n6_; clear hb1_ hb0_ hW_ n2_ n3_ n4_ n5_ n6_; clear hb hbox hg))
 have n0_ := Aside0.mk (blk_drew BK349.out)
 have n1_ := Aside0.mk (blk_drew BK350.out)
 have n2_ := Aside0.mk (below_drew1 HB.out)
 clear BK349
 clear BK350
 clear HB
 have BK349 := n0_
 have BK350 := n1_
 have HB := n2_
 clear n0_ n1_ n2_
 refine start_ (n := 21) (S := fun w' => w'.cell? ⟨gb349, 0, none⟩ = some (.int .i64 a0_0) ∧ w'.cell? ⟨gb349, 1, none⟩ = some (.string a0_1) ∧ w'.cell? ⟨gb349, 2, none⟩ = some (.int .i64 a0_2) ∧ w'.cell? ⟨gb349, 3, none⟩ = some (.int .i64 a0_3) ∧ w'.cell? ⟨gb349, 4, none⟩ = some (.bool a0_4) ∧ w'.cell? ⟨gb349, 5, none⟩ = some (.string a0_5) ∧ w'.cell? ⟨gb349, 6, none⟩ = some (.slice A0_6 l0_6.length c0_6) ∧ w'.cell? ⟨gb349, 7, none⟩ = some (.int .i64 a0_7) ∧ w'.cell? ⟨gb349, 8, none⟩ = some (.int .i64 a0_8)) (ds := []) #[false, false, false, false, false, false, false, false, false, false, false, false, false, false, false, false, false, false, false, false, false] (by kernel_rfl) rfl rfl ⟨(blk_cell BK349.out 0).trans rfl, (blk_cell BK349.out 1).trans rfl, (blk_cell BK349.out 2).trans rfl, (blk_cell BK349.out 3).trans rfl, (blk_cell BK349.out 4).trans rfl, (blk_cell BK349.out 5).trans rfl, (blk_cell BK349.out 6).trans rfl, (blk_cell BK349.out 7).trans rfl, (blk_cell BK349.out 8).trans rfl⟩ (fun hHeld => ?_); refine with_tabW impl_row_slot.tab1 impl_row_slot.bits1 (fun HT_ HW_ => ?_)
 generalize w4.drew = w5 at BK349 BK350 HB hHeld ⊢
 refine pureY (i := 0) (N := some 3) (v := ?_) (a' := ?_) #[true, false, false, false, false, false, false, false, false, false, false, false, false, false, false, false, false, false, false, false, false] rfl rfl (any_of HT_.out (by kernel_rfl)) ⟨by rfl, ?_⟩ ?_ ?_
 rotate_left
 · intro w'
   go_simp
   with_reducible rfl
 rotate_left
 · simp only [Act.put, sA_, i64_w, i32_w]
   rfl
 refine pureY (i := 1) (N := some 4) (v := ?_) (a' := ?_) #[true, true, false, false, false, false, false, false, false, false, false, false, false, false, false, false, false, false, false, false, false] rfl rfl (any_of HT_.out (by kernel_rfl)) ⟨by rfl, ?_⟩ ?_ ?_
 rotate_left
 · intro w'
   go_simp
   with_reducible rfl
 rotate_left
 · simp only [Act.put, sA_, i64_w, i32_w]
   rfl
 refine pureY (i := 3) (N := some 6) (v := ?_) (a' := ?_) #[true, true, false, true, false, false, false, false, false, false, false, false, false, false, false, false, false, false, false, false, false] rfl rfl (any_of HT_.out (by kernel_rfl)) ⟨by rfl, ?_⟩ ?_ ?_
 rotate_left
 · intro w'
   go_simp
   with_reducible rfl
 rotate_left
 · simp only [Act.put, sA_, i64_w, i32_w]
   rfl
 refine pureY (i := 5) (N := some 8) (v := ?_) (a' := ?_) #[true, true, false, true, false, true, false, false, false, false, false, false, false, false, false, false, false, false, false, false, false] rfl rfl (any_of HT_.out (by kernel_rfl)) ⟨by rfl, ?_⟩ ?_ ?_
 rotate_left
 · intro w'
   go_simp
   with_reducible rfl
 rotate_left
 · simp only [Act.put, sA_, i64_w, i32_w]
   rfl
 refine pureY (i := 7) (N := some 10) (v := ?_) (a' := ?_) #[true, true, false, true, false, true, false, true, false, false, false, false, false, false, false, false, false, false, false, false, false] rfl rfl (any_of HT_.out (by kernel_rfl)) ⟨by rfl, ?_⟩ ?_ ?_
 rotate_left
 · intro w'
   go_simp
   with_reducible rfl
 rotate_left
 · simp only [Act.put, sA_, i64_w, i32_w]
   rfl
 refine pureY (i := 10) (N := some 13) (v := ?_) (a' := ?_) #[true, true, false, true, false, true, false, true, false, false, true, false, false, false, false, false, false, false, false, false, false] rfl rfl (any_of HT_.out (by kernel_rfl)) ⟨by rfl, ?_⟩ ?_ ?_
 rotate_left
 · intro w'
   go_simp
   with_reducible rfl
 rotate_left
 · simp only [Act.put, sA_, i64_w, i32_w]
   rfl
 refine pureY (i := 12) (N := some 15) (v := ?_) (a' := ?_) #[true, true, false, true, false, true, false, true, false, false, true, false, true, false, false, false, false, false, false, false, false] rfl rfl (any_of HT_.out (by kernel_rfl)) ⟨by rfl, ?_⟩ ?_ ?_
 rotate_left
 · intro w'
   go_simp
   with_reducible rfl
 rotate_left
 · simp only [Act.put, sA_, i64_w, i32_w]
   rfl
 refine pureY (i := 14) (N := some 17) (v := ?_) (a' := ?_) #[true, true, false, true, false, true, false, true, false, false, true, false, true, false, true, false, false, false, false, false, false] rfl rfl (any_of HT_.out (by kernel_rfl)) ⟨by rfl, ?_⟩ ?_ ?_
 rotate_left
 · intro w'
   go_simp
   with_reducible rfl
 rotate_left
 · simp only [Act.put, sA_, i64_w, i32_w]
   rfl
 refine pureY (i := 16) (N := some 19) (v := ?_) (a' := ?_) #[true, true, false, true, false, true, false, true, false, false, true, false, true, false, true, false, true, false, false, false, false] rfl rfl (any_of HT_.out (by kernel_rfl)) ⟨by rfl, ?_⟩ ?_ ?_
 rotate_left
 · intro w'
   go_simp
   with_reducible rfl
 rotate_left
 · simp only [Act.put, sA_, i64_w, i32_w]
   rfl
 refine pureY (i := 17) (N := some 20) (v := ?_) (a' := ?_) #[true, true, false, true, false, true, false, true, false, false, true, false, true, false, true, false, true, true, false, false, false] rfl rfl (any_of HT_.out (by kernel_rfl)) ⟨by rfl, ?_⟩ ?_ ?_
 rotate_left
 · intro w'
   go_simp
   with_reducible rfl
 rotate_left
 · simp only [Act.put, sA_, i64_w, i32_w]
   rfl
 refine takeY (i := 2) (N := some 5) (v := ?_) (a' := ?_) #[true, true, true, true, false, true, false, true, false, false, true, false, true, false, true, false, true, true, false, false, false] rfl rfl (take_ofW HT_.out HW_.out (by kernel_rfl)) ⟨by rfl, ?_⟩ hHeld ?_ ?_
 rotate_left
 · rintro w' ⟨s0, s1, s2, s3, s4, s5, s6, s7, s8⟩
   go_simp
   with_reducible rfl
 rotate_left
 · simp only [Act.put, sA_, i64_w, i32_w]
   rfl
 refine takeY (i := 4) (N := some 7) (v := ?_) (a' := ?_) #[true, true, true, true, true, true, false, true, false, false, true, false, true, false, true, false, true, true, false, false, false] rfl rfl (take_ofW HT_.out HW_.out (by kernel_rfl)) ⟨by rfl, ?_⟩ hHeld ?_ ?_
 rotate_left
 · rintro w' ⟨s0, s1, s2, s3, s4, s5, s6, s7, s8⟩
   go_simp
   with_reducible rfl
 rotate_left
 · simp only [Act.put, sA_, i64_w, i32_w]
   rfl
 refine takeY (i := 6) (N := some 9) (v := ?_) (a' := ?_) #[true, true, true, true, true, true, true, true, false, false, true, false, true, false, true, false, true, true, false, false, false] rfl rfl (take_ofW HT_.out HW_.out (by kernel_rfl)) ⟨by rfl, ?_⟩ hHeld ?_ ?_
 rotate_left
 · rintro w' ⟨s0, s1, s2, s3, s4, s5, s6, s7, s8⟩
   go_simp
   with_reducible rfl
 rotate_left
 · simp only [Act.put, sA_, i64_w, i32_w]
   rfl
 refine takeY (i := 8) (N := some 11) (v := ?_) (a' := ?_) #[true, true, true, true, true, true, true, true, true, false, true, false, true, false, true, false, true, true, false, false, false] rfl rfl (take_ofW HT_.out HW_.out (by kernel_rfl)) ⟨by rfl, ?_⟩ hHeld ?_ ?_
 rotate_left
 · rintro w' ⟨s0, s1, s2, s3, s4, s5, s6, s7, s8⟩
   go_simp
   with_reducible rfl
 rotate_left
 · simp only [Act.put, sA_, i64_w, i32_w]
   rfl
 refine takeY (i := 11) (N := some 14) (v := ?_) (a' := ?_) #[true, true, true, true, true, true, true, true, true, false, true, true, true, false, true, false, true, true, false, false, false] rfl rfl (take_ofW HT_.out HW_.out (by kernel_rfl)) ⟨by rfl, ?_⟩ hHeld ?_ ?_
 rotate_left
 · rintro w' ⟨s0, s1, s2, s3, s4, s5, s6, s7, s8⟩
   go_simp
   with_reducible rfl
 rotate_left
 · simp only [Act.put, sA_, i64_w, i32_w]
   rfl
 refine takeY (i := 13) (N := some 16) (v := ?_) (a' := ?_) #[true, true, true, true, true, true, true, true, true, false, true, true, true, true, true, false, true, true, false, false, false] rfl rfl (take_ofW HT_.out HW_.out (by kernel_rfl)) ⟨by rfl, ?_⟩ hHeld ?_ ?_
 rotate_left
 · rintro w' ⟨s0, s1, s2, s3, s4, s5, s6, s7, s8⟩
   go_simp
   with_reducible rfl
 rotate_left
 · simp only [Act.put, sA_, i64_w, i32_w]
   rfl
 refine takeY (i := 15) (N := some 18) (v := ?_) (a' := ?_) #[true, true, true, true, true, true, true, true, true, false, true, true, true, true, true, true, true, true, false, false, false] rfl rfl (take_ofW HT_.out HW_.out (by kernel_rfl)) ⟨by rfl, ?_⟩ hHeld ?_ ?_
 rotate_left
 · rintro w' ⟨s0, s1, s2, s3, s4, s5, s6, s7, s8⟩
   go_simp
   with_reducible rfl
 rotate_left
 · simp only [Act.put, sA_, i64_w, i32_w]
   rfl
 refine takeY (i := 18) (N := some 21) (v := ?_) (a' := ?_) #[true, true, true, true, true, true, true, true, true, false, true, true, true, true, true, true, true, true, true, false, false] rfl rfl (take_ofW HT_.out HW_.out (by kernel_rfl)) ⟨by rfl, ?_⟩ hHeld ?_ ?_
 rotate_left
 · rintro w' ⟨s0, s1, s2, s3, s4, s5, s6, s7, s8⟩
   go_simp
   with_reducible rfl
 rotate_left
 · simp only [Act.put, sA_, i64_w, i32_w]
   rfl
 refine one_ (i := 9) (N := some 12) #[true, true, true, true, true, true, true, true, true, true, true, true, true, true, true, true, true, true, true, false, false] rfl rfl (one_of HT_.out (by kernel_rfl)) (by decide) (fun K hK => ?_)
 refine goes_ Tryd.func118 (by kernel_rfl) rfl #[.slice A0_6 l0_6.length c0_6] (by rfl) rfl rfl (by (try simp only [List.map_toArray, List.map_cons, List.map_nil]); first | done | rfl | (simp only [List.length_drop, List.length_take]; rfl)) ?_
 with_reducible refine (slices_Clone_impl_Key_impl_Key.calls _ _ l0_6 t351 _ ?side1 ?side2 A2.out).mono ?_
 (case side1 => repeat (first | exact (Kd.C_below HR0_6.out HB.out) | (with_reducible refine Kd.C_alloc ?_ _) | (with_reducible refine Kd.C_drewN ?_ _) | (with_reducible refine Kd.C_drew ?_)))
 (case side2 => exact HC0_6.out)
 rintro e w6 ⟨v352, rfl, ho0, hb⟩
 refine ⟨_, rfl, ?_⟩
 have hb1_ := fromQ HB.out hb
 have hb0_ := below_step hb1_ hb
 have hW_ := below_step HB.out hb1_
 have n0_ := Aside0.mk (Kd.R_lower ho0 (below_size hW_))
 replace BK349 := kB BK349 hb0_
 replace BK350 := kB BK350 hb0_
 replace HB := kH HB hb0_
 have HO353 := n0_
 clear hb1_ hb0_ hW_ n0_
 (try clear hb)
 (try clear hb2)
 (try clear hk)
 (try clear hi)
 (try clear ho0)
 obtain ⟨Ao7, co7, eo7⟩ := Kd.R_slice HO353.out
 (first | subst eo7 | (injection eo7 with f1_ f2_ f3_; have f4_ := f1_.symm; have f5_ := f3_.symm; clear f1_ f2_ f3_; subst f4_; subst f5_))
 refine hK.out _ _ ⟨(blk_cell BK349.out 0).trans rfl, (blk_cell BK349.out 1).trans rfl, (blk_cell BK349.out 2).trans rfl, (blk_cell BK349.out 3).trans rfl, (blk_cell BK349.out 4).trans rfl, (blk_cell BK349.out 5).trans rfl, (blk_cell BK349.out 6).trans rfl, (blk_cell BK349.out 7).trans rfl, (blk_cell BK349.out 8).trans rfl⟩ (fun hHeld => ?_)
 clear hK K
 refine norm_ (a' := ?_) ?_ ?_
 rotate_left
 · show Act.put _ (some 12) _ = _
   simp only [Act.put, sA_, i64_w, i32_w]
   rfl
 refine pureY (i := 19) (N := some 22) (v := ?_) (a' := ?_) #[true, true, true, true, true, true, true, true, true, true, true, true, true, true, true, true, true, true, true, true, false] rfl rfl (any_of HT_.out (by kernel_rfl)) ⟨by rfl, ?_⟩ ?_ ?_
 rotate_left
 · intro w'
   go_simp
   with_reducible rfl
 rotate_left
 · simp only [Act.put, sA_, i64_w, i32_w]
   rfl
 refine one_ (i := 20) (N := none) #[true, true, true, true, true, true, true, true, true, true, true, true, true, true, true, true, true, true, true, true, true] rfl rfl (one_of HT_.out (by kernel_rfl)) (by decide) (fun K hK => ?_)
 have hs8 : w6.cell? ⟨gb350, 0, none⟩ = some (.int .i64 0) := (blk_cell BK350.out 0).trans rfl
 have hfs8 := blk_frozen BK350.out 0
 have hns8_0 := NB349_350.out
 have hms8_0 := NB350_349.out
 have hs9 : w6.cell? ⟨gb350, 1, none⟩ = some (.string (⟨#[]⟩ : ByteArray)) := (blk_cell BK350.out 1).trans rfl
 have hfs9 := blk_frozen BK350.out 1
 have hs10 : w6.cell? ⟨gb350, 2, none⟩ = some (.bool false) := (blk_cell BK350.out 2).trans rfl
 have hfs10 := blk_frozen BK350.out 2
 have hs11 : w6.cell? ⟨gb350, 3, none⟩ = some (.string (⟨#[]⟩ : ByteArray)) := (blk_cell BK350.out 3).trans rfl
 have hfs11 := blk_frozen BK350.out 3
 have hs12 : w6.cell? ⟨gb350, 4, none⟩ = some (.slice none 0 0) := (blk_cell BK350.out 4).trans rfl
 have hfs12 := blk_frozen BK350.out 4
 have hs13 : w6.cell? ⟨gb350, 5, none⟩ = some (.int .i64 0) := (blk_cell BK350.out 5).trans rfl
 have hfs13 := blk_frozen BK350.out 5
 have hs14 : w6.cell? ⟨gb350, 6, none⟩ = some (.int .i64 0) := (blk_cell BK350.out 6).trans rfl
 have hfs14 := blk_frozen BK350.out 6
 have hs15 : w6.cell? ⟨gb350, 7, none⟩ = some (.int .i64 0) := (blk_cell BK350.out 7).trans rfl
 have hfs15 := blk_frozen BK350.out 7
 have hs16 : w6.cell? ⟨gb350, 8, none⟩ = some (.int .i64 0) := (blk_cell BK350.out 8).trans rfl
 have hfs16 := blk_frozen BK350.out 8
 refine skip_ (w1 := ?_) (by rfl) rfl ?_ ?_
 rotate_left
 · go_simp
   rfl
 refine hK.out _ _ ⟨(cell_far9 NB349_350.out).trans hHeld.1, (cell_far9 NB349_350.out).trans hHeld.2.1, (cell_far9 NB349_350.out).trans hHeld.2.2.1, (cell_far9 NB349_350.out).trans hHeld.2.2.2.1, (cell_far9 NB349_350.out).trans hHeld.2.2.2.2.1, (cell_far9 NB349_350.out).trans hHeld.2.2.2.2.2.1, (cell_far9 NB349_350.out).trans hHeld.2.2.2.2.2.2.1, (cell_far9 NB349_350.out).trans hHeld.2.2.2.2.2.2.2.1, (cell_far9 NB349_350.out).trans hHeld.2.2.2.2.2.2.2.2⟩ (fun hHeld => ?_)
 clear hK K
 refine done_ (done_of HT_.out (by kernel_rfl)) ?_
 try go_wp2
 refine bodyPost_ret (results_cell_row rfl _ _ gb350 32 #[.int .i64 a0_0, .string a0_1, .bool a0_4, .string a0_5, .slice Ao7 t351.length co7, .int .i64 a0_7, .int .i64 a0_8, .int .i64 a0_3, .int .i64 a0_2] (0, 0) _ rfl (by (with_reducible repeat (first | refine blk_drewN ?_ _ | refine blk_drew ?_ | refine blk_alloc ?_ _)); apply blk_stores9; (with_reducible repeat (first | refine blk_drewN ?_ _ | refine blk_drew ?_ | refine blk_alloc ?_ _)); exact BK350.out) Tryd.underlying32 rfl (by kernel_rfl)) rfl ?_
 exact ⟨_, by first | rfl | (simp [errW_none, errW_some] <;> rfl) | (simp [*, errW_none, errW_some] <;> rfl), by (with_reducible repeat (first | apply Kd.R_alloc | apply Kd.R_drewN | apply Kd.R_drew)); exact Kd.R_mono (R_far9 (g := gb350) (Kd.R_types HO353.out BK350.out (by decide)) (fun _ hk => hk.2)) (fun _ hk => trivial), by repeat (first | (with_reducible first | exact HB.out | apply below_alloc | apply pw_below_drewN | apply below_drew1 | refine below_set ?_ GE349.out | refine below_set ?_ GE350.out) | exact HB.out)⟩
def rowT (q : RwT) : S32 := ⟨⟨q.f0.f0.f0, q.f0.f0.f1⟩, q.f2, q.f3, q.f4, q.f5, q.f6, q.f1, q.f0.f1⟩
theorem rd_mem_rw (l : List RwT) {k : Nat} (h : k < l.length) : rd_T101 l k ∈ l := by
 unfold rd_T101
 rw [Int.toNat_natCast, List.getD_eq_getElem?_getD, List.getElem?_eq_getElem h]
 exact List.getElem_mem h
theorem take_rw (l : List RwT) (k : Nat) (h : k < l.length) : (l.take (k + 1)).map rowT = (l.take k).map rowT ++ [rowT (rd_T101 l k)] := by
 rw [List.take_succ_eq_append_getElem h, List.map_append]
 unfold rd_T101
 rw [Int.toNat_natCast, List.getD_eq_getElem?_getD, List.getElem?_eq_getElem h]
 rfl
theorem infoSlot : (Tryd.prog.info? 32).map (fun i => (i.zero, i.size, i.bytes)) = some (some (.agg #[(.int .i64 0), (.string ⟨#[]⟩), (.bool false), (.string ⟨#[]⟩), (.slice none 0 0), (.int .i64 0), (.int .i64 0), (.int .i64 0), (.int .i64 0)]), 9, 104) := by kernel_rfl
structure TbAt (w0 W : World) (l : List S32) : Prop where
 h2 : W.heap[w0.heap.size]? = some (.cells #[.slice none 0 0] 36 (0, 0))
 hg : ∃ v, W.heap[w0.heap.size + 1]? = some (.cells #[v] 36 (0, 0)) ∧ Kd.S k32 32 W w0.heap.size (fun _ => True) v l
 bel : Below w0.heap.size w0 W
theorem TbAt.keep {w0 W W1 : World} {l : List S32} (h : TbAt w0 W l) (b : Below W.heap.size W W1) : TbAt w0 W1 l := by
 obtain ⟨v, hv, hs⟩ := h.hg
 exact ⟨blk_below h.h2 b, ⟨v, blk_below hv b, Kd.S_below hs b⟩, below_step h.bel b⟩
theorem TbAt.init (w : World) : TbAt w ((w.alloc (.cells #[.slice none 0 0] 36)).alloc (.cells #[.slice none 0 0] 36)) [] :=
 ⟨blk_alloc (blk_new w _) _, ⟨_, blk_new_at (by simp), ⟨fun _ => 0, Kd.R_nil _ _ _ _ _⟩⟩, by repeat (first | exact Below.refl _ _ | apply below_alloc)⟩
def impl_rows_table.f (l : List RwT) : Option (List S32) := if l.length ≤ 4097 ∧ ∀ s ∈ l, s.f4.length < 4398046511104 then some (l.map rowT) else none
set_option maxHeartbeats 16000000 in
set_option maxRecDepth 100000 in
theorem impl_rows_table.table (g : Nat) (A : Option Addr) (c : Nat) (l : List RwT) (r : List S32) (w : World) (hO : OrdAt w g A c l) (h : impl_rows_table.f l = some r) :
 Calls Tryd.prog 122 #[.pointer (some ⟨g, 0, none⟩)] w fun e w' => ∃ v : Value, e = .returned (.agg #[v]) ∧ Kd.S k32 32 w' w.heap.size (fun _ => True) v r ∧ Below w.heap.size w w' := by
 have hu1 := Tryd.underlying101
 have hu2 := Tryd.underlying32
 have hu3 := Tryd.underlying36
 have hu4 := Tryd.underlying95
 have hu5 := Tryd.underlying97
 have hu6 := Tryd.underlying99
 unfold impl_rows_table.f at h
 by_cases gd : l.length ≤ 4097 ∧ ∀ s ∈ l, s.f4.length < 4398046511104
 case neg => rw [if_neg gd] at h; cases h
 rw [if_pos gd] at h
 obtain rfl := Option.some.inj h
 have G := Aside0.mk gd
 have HO := Aside0.mk hO
 have T0 := Aside0.mk (TbAt.init w)
 have ht0 : ((w.alloc (.cells #[.slice none 0 0] 36)).alloc (.cells #[.slice none 0 0] 36)).cell? ⟨g, 0, none⟩ = some (.slice A l.length c) := pw_cell_below T0.out.bel hO.h0
 clear gd h hO
 go_enter Tryd.func122, Tryd.ntmps122
 go_wp2
 go_loopw [12] (fun i wr => ∃ k : Nat, k ≤ l.length ∧ i = .int .i64 k ∧ Aside0 (TbAt w wr ((l.take k).map rowT))) (fun i _ => l.length - (intOf i).toNat)
 case atStart => exact ⟨0, Nat.zero_le _, rfl, T0⟩
 case round =>
  clear T0 ht0
  obtain ⟨k, hk, rfl, HA⟩ := hrel
  by_cases hlt : k < l.length
  ·
   have p0 : 0 ≤ (k : Int) := by omega
   have q0 : (k : Int) < (l.length : Int) := by omega
   have ql : decide (k < l.length) = true := decide_eq_true hlt
   obtain ⟨ad, A6, c6, eA, hx0, hx1, hx2, hx3, hx4, hx5, hx6, hx7, hx8, hc6, hC6⟩ := at_T101 HO.out.hr k p0 q0
   cases eA
   rw [Int.toNat_natCast] at hx0 hx1 hx2 hx3 hx4 hx5 hx6 hx7 hx8
   replace hx0 := (HA.out.bel.cell (World.block_lt_of_cell? w _ hx0)).trans hx0
   replace hx1 := (HA.out.bel.cell (World.block_lt_of_cell? w _ hx1)).trans hx1
   replace hx2 := (HA.out.bel.cell (World.block_lt_of_cell? w _ hx2)).trans hx2
   replace hx3 := (HA.out.bel.cell (World.block_lt_of_cell? w _ hx3)).trans hx3
   replace hx4 := (HA.out.bel.cell (World.block_lt_of_cell? w _ hx4)).trans hx4
   replace hx5 := (HA.out.bel.cell (World.block_lt_of_cell? w _ hx5)).trans hx5
   replace hx6 := (HA.out.bel.cell (World.block_lt_of_cell? w _ hx6)).trans hx6
   replace hx7 := (HA.out.bel.cell (World.block_lt_of_cell? w _ hx7)).trans hx7
   replace hx8 := (HA.out.bel.cell (World.block_lt_of_cell? w _ hx8)).trans hx8
   have hg6 : (rd_T101 l (k : Int)).f4.length < 4398046511104 := G.out.2 _ (rd_mem_rw l hlt)
   have HD := Aside0.mk (take_rw l k hlt)
   have HLen := Aside0.mk (show ((l.take k).map rowT).length ≤ 4097 by rw [List.length_map, List.length_take]; have := G.out.1; omega)
   obtain ⟨L, hL⟩ : ∃ L, L = (l.take k).map rowT := ⟨_, rfl⟩
   rw [← hL] at HA HD HLen
   clear hL
   obtain ⟨q, hq⟩ : ∃ q, q = rd_T101 l (k : Int) := ⟨_, rfl⟩
   rw [← hq] at hx0 hx1 hx2 hx3 hx4 hx5 hx6 hx7 hx8 hC6 hc6 hg6 HD
   clear hq
   have HC6 := Aside0.mk hC6
   have HG6 := Aside0.mk hg6
   have Hc6 := Aside0.mk hc6
   clear hC6 hg6 hc6
   have HF := Aside0.mk (show impl_row_slot.f q.f0.f0.f0 q.f0.f0.f1 q.f0.f1 q.f1 q.f2 q.f3 q.f4 q.f5 q.f6 = some (q.f0.f0.f0, q.f0.f0.f1, q.f2, q.f3, q.f4, q.f5, q.f6, q.f1, q.f0.f1) by unfold impl_row_slot.f slices_Clone_impl_Key_impl_Key.f; rw [if_pos HG6.out]; rfl)
   go_wp2
   obtain ⟨W2, hW2⟩ : ∃ W2 : World, W2 = wr.alloc (.cells #[.int .i64 q.f0.f0.f0, .string q.f0.f0.f1, .int .i64 q.f0.f1, .int .i64 q.f1, .bool q.f2, .string q.f3, .slice A6 q.f4.length c6, .int .i64 q.f5, .int .i64 q.f6] 101) := ⟨_, rfl⟩
   rw [← hW2]
   have hb2 : Below wr.heap.size wr W2 := by rw [hW2]; exact below_alloc (Below.refl _ _) _
   have hx9 : W2.heap[wr.heap.size]? = some (.cells #[.int .i64 q.f0.f0.f0, .string q.f0.f0.f1, .int .i64 q.f0.f1, .int .i64 q.f1, .bool q.f2, .string q.f3, .slice A6 q.f4.length c6, .int .i64 q.f5, .int .i64 q.f6] 101 (0, 0)) := by rw [hW2]; exact blk_new _ _
   clear hW2
   have HA2 := Aside0.mk (HA.out.keep hb2)
   have HC2 := Aside0.mk (Kd.C_below HC6.out (below_step HA.out.bel hb2))
   have HX9 := Aside0.mk hx9
   clear hx9 hb2 hx0 hx1 hx2 hx3 hx4 hx5 hx6 hx7 hx8
   obtain ⟨v, hv, hs2⟩ := HA2.out.hg
   obtain ⟨AT, cT, rfl⟩ := Kd.S_slice hs2
   have HV := Aside0.mk hv
   have HS2 := Aside0.mk hs2
   clear hv hs2
   refine start_ (n := 8) (S := fun w' => w'.cell? ⟨w.heap.size + 1, 0, none⟩ = some (.slice AT L.length cT) ∧ w'.cell? ⟨wr.heap.size, 0, none⟩ = some (.int .i64 q.f0.f0.f0) ∧ w'.cell? ⟨wr.heap.size, 1, none⟩ = some (.string q.f0.f0.f1) ∧ w'.cell? ⟨wr.heap.size, 2, none⟩ = some (.int .i64 q.f0.f1) ∧ w'.cell? ⟨wr.heap.size, 3, none⟩ = some (.int .i64 q.f1) ∧ w'.cell? ⟨wr.heap.size, 4, none⟩ = some (.bool q.f2) ∧ w'.cell? ⟨wr.heap.size, 5, none⟩ = some (.string q.f3) ∧ w'.cell? ⟨wr.heap.size, 6, none⟩ = some (.slice A6 q.f4.length c6) ∧ w'.cell? ⟨wr.heap.size, 7, none⟩ = some (.int .i64 q.f5) ∧ w'.cell? ⟨wr.heap.size, 8, none⟩ = some (.int .i64 q.f6)) (ds := [5, 7]) #[false, false, false, false, false, false, false, false] (by kernel_rfl) rfl rfl ⟨(blk_cell HV.out 0).trans rfl, (blk_cell HX9.out 0).trans rfl, (blk_cell HX9.out 1).trans rfl, (blk_cell HX9.out 2).trans rfl, (blk_cell HX9.out 3).trans rfl, (blk_cell HX9.out 4).trans rfl, (blk_cell HX9.out 5).trans rfl, (blk_cell HX9.out 6).trans rfl, (blk_cell HX9.out 7).trans rfl, (blk_cell HX9.out 8).trans rfl⟩ (fun hHeld => ?_)
   refine pureY (i := 0) (N := some 16) (v := ?_) (a' := ?_) #[true, false, false, false, false, false, false, false] rfl rfl (by kernel_rfl) ⟨by rfl, ?_⟩ ?_ ?_
   rotate_left
   · intro w'
     go_simp
     with_reducible rfl
   rotate_left
   · simp only [Act.put, sA_, i64_w, i32_w]
     rfl
   refine takeY (i := 1) (N := some 17) (v := ?_) (a' := ?_) #[true, true, false, false, false, false, false, false] rfl rfl (by kernel_rfl) ⟨by rfl, ?_⟩ hHeld ?_ ?_
   rotate_left
   · rintro w' ⟨s0, s1, s2, s3, s4, s5, s6, s7, s8, s9⟩
     go_simp
     with_reducible rfl
   rotate_left
   · simp only [Act.put, sA_, i64_w, i32_w]
     rfl
   refine takeY (i := 2) (N := some 18) (v := ?_) (a' := ?_) #[true, true, true, false, false, false, false, false] rfl rfl (by kernel_rfl) ⟨by rfl, ?_⟩ hHeld ?_ ?_
   rotate_left
   · rintro w' ⟨s0, s1, s2, s3, s4, s5, s6, s7, s8, s9⟩
     go_simp
     with_reducible rfl
   rotate_left
   · simp only [Act.put, sA_, i64_w, i32_w]
     rfl
   refine one_ (i := 3) (N := some 19) #[true, true, true, true, false, false, false, false] rfl rfl (by kernel_rfl) (by decide) (fun K hK => ?_)
   refine goes_ Tryd.func60 rfl rfl #[.agg #[.int .i64 q.f0.f0.f0, .string q.f0.f0.f1, .int .i64 q.f0.f1, .int .i64 q.f1, .bool q.f2, .string q.f3, .slice A6 q.f4.length c6, .int .i64 q.f5, .int .i64 q.f6]] rfl rfl rfl (by (try simp only [List.map_toArray, List.map_cons, List.map_nil, List.append_toArray, List.append_nil, List.nil_append, List.cons_append]); rfl) ?_
   refine (impl_row_slot.calls q.f0.f0.f0 q.f0.f0.f1 q.f0.f1 q.f1 q.f2 q.f3 A6 c6 q.f4 q.f5 q.f6 _ _ _ _ _ _ _ _ _ _ (Kd.C_drew HC2.out) Hc6.out HF.out).mono ?_
   rintro e w7 ⟨v7, rfl, ho7, hb7⟩
   obtain ⟨A7, c7, rfl⟩ := Kd.R_slice ho7
   refine ⟨_, rfl, ?_⟩
   refine hK.out _ _ ⟨pw_cell_below hb7 hHeld.1, pw_cell_below hb7 hHeld.2.1, pw_cell_below hb7 hHeld.2.2.1, pw_cell_below hb7 hHeld.2.2.2.1, pw_cell_below hb7 hHeld.2.2.2.2.1, pw_cell_below hb7 hHeld.2.2.2.2.2.1, pw_cell_below hb7 hHeld.2.2.2.2.2.2.1, pw_cell_below hb7 hHeld.2.2.2.2.2.2.2.1, pw_cell_below hb7 hHeld.2.2.2.2.2.2.2.2.1, pw_cell_below hb7 hHeld.2.2.2.2.2.2.2.2.2⟩ (fun hHeld => ?_)
   clear hK K
   refine norm_ (a' := ?_) ?_ ?_
   rotate_left
   · show Act.put _ (some 19) _ = _
     simp only [Act.put, sA_, i64_w, i32_w]
     rfl
   have HO7 := Aside0.mk ho7
   have HB7 := Aside0.mk hb7
   have HV7 := Aside0.mk (blk_below (blk_drew HV.out) hb7)
   have H27 := Aside0.mk (blk_below (blk_drew HA2.out.h2) hb7)
   have HS7 := Aside0.mk (Kd.S_elder' (Kd.S_drew HS2.out) (Kd.R_base ho7) hb7)
   have HBB := Aside0.mk (below_step (below_drew1 HA2.out.bel) hb7)
   have HSZ := Aside0.mk (Nat.le_trans (below_size (below_drew1 HA2.out.bel)) (below_size hb7))
   clear hb7 ho7
   refine one_ (i := 4) (N := some 20) #[true, true, true, true, true, false, false, false] rfl rfl (by kernel_rfl) (by decide) (fun K hK => ?_)
   refine value_ (v := .slice (some ⟨w7.heap.size, 0, none⟩) 1 1) (w1 := w7.alloc (.cells #[.int .i64 q.f0.f0.f0, .string q.f0.f0.f1, .bool q.f2, .string q.f3, .slice A7 q.f4.length c7, .int .i64 q.f5, .int .i64 q.f6, .int .i64 q.f1, .int .i64 q.f0.f1] 32)) (by rfl) rfl ?_ ?_
   · go_simp
   refine hK.out _ _ ⟨pw_cell_below (below_alloc (Below.refl _ _) _) hHeld.1, pw_cell_below (below_alloc (Below.refl _ _) _) hHeld.2.1, pw_cell_below (below_alloc (Below.refl _ _) _) hHeld.2.2.1, pw_cell_below (below_alloc (Below.refl _ _) _) hHeld.2.2.2.1, pw_cell_below (below_alloc (Below.refl _ _) _) hHeld.2.2.2.2.1, pw_cell_below (below_alloc (Below.refl _ _) _) hHeld.2.2.2.2.2.1, pw_cell_below (below_alloc (Below.refl _ _) _) hHeld.2.2.2.2.2.2.1, pw_cell_below (below_alloc (Below.refl _ _) _) hHeld.2.2.2.2.2.2.2.1, pw_cell_below (below_alloc (Below.refl _ _) _) hHeld.2.2.2.2.2.2.2.2.1, pw_cell_below (below_alloc (Below.refl _ _) _) hHeld.2.2.2.2.2.2.2.2.2⟩ (fun hHeld => ?_)
   clear hK K
   refine norm_ (a' := ?_) ?_ ?_
   rotate_left
   · show Act.put _ (some 20) _ = _
     simp only [Act.put, sA_, i64_w, i32_w]
     rfl
   refine last_ (i := 5) (N := some 21) #[true, true, true, true, true, true, false, false] rfl rfl (by kernel_rfl) (by decide) (fun K hK => ?_)
   refine Kd.S_append_step k32 (w0 := w) (W := w7) w.heap.size (by rfl) (.tmp 17) (.tmp 20) 34 32 (.agg #[(.int .i64 0), (.string ⟨#[]⟩), (.bool false), (.string ⟨#[]⟩), (.slice none 0 0), (.int .i64 0), (.int .i64 0), (.int .i64 0), (.int .i64 0)]) 104 rfl Tryd.underlying34 infoSlot rfl (by decide) (by omega) (.slice AT L.length cT) L (⟨⟨q.f0.f0.f0, q.f0.f0.f1⟩, q.f2, q.f3, q.f4, q.f5, q.f6, q.f1, q.f0.f1⟩ : S32) [.int .i64 q.f0.f0.f0, .string q.f0.f0.f1, .bool q.f2, .string q.f3, .slice A7 q.f4.length c7, .int .i64 q.f5, .int .i64 q.f6, .int .i64 q.f1, .int .i64 q.f0.f1] (fun _ => True) (fun b => some b = (Value.slice A7 q.f4.length c7).ownBlock) rfl rfl (k32_mkM _ _ _ (⟨⟨q.f0.f0.f0, q.f0.f0.f1⟩, q.f2, q.f3, q.f4, q.f5, q.f6, q.f1, q.f0.f1⟩ : S32) (Kd.R_tight rfl (Kd.R_lower HO7.out (below_size (below_drew1 HA2.out.bel))))) (fun b hb => ⟨trivial, fun e => by have h1 := Kd.S_lt HS2.out b e.symm; have h2 := Kd.R_base HO7.out b hb.symm; exact absurd h1 (Nat.not_lt.2 h2)⟩) (fun _ _ => trivial) (Kd.S_mono HS7.out (fun b hb => ⟨trivial, fun e => hb.2 e⟩)) HBB.out HSZ.out (by have := HLen.out; omega) ?_
   intro v1 w1 hs1 hb1 hg1 _
   refine hK.out _ _ ?_
   clear hK K
   refine norm_ (a' := ?_) ?_ ?_
   rotate_left
   · show Act.put _ (some 21) _ = _
     simp only [Act.put, sA_, i64_w, i32_w]
     rfl
   have hne := Kd.S_ne (Kd.S_mono HS7.out (fun _ _ => trivial) : Kd.S k32 32 w7 w.heap.size (fun _ => True) _ _) HV7.out (by decide)
   have hv1 := blk_grown HV7.out hg1 hne
   have h21 := Aside0.mk (blk_grown H27.out hg1 (Kd.S_ne (Kd.S_mono HS7.out (fun _ _ => trivial) : Kd.S k32 32 w7 w.heap.size (fun _ => True) _ _) H27.out (by decide)))
   obtain ⟨A1, c1, rfl⟩ := Kd.S_slice hs1
   have hcv1 : w1.cell? ⟨w.heap.size + 1, 0, none⟩ = some (.slice AT L.length cT) := (blk_cell hv1 0).trans rfl
   have hfv1 := blk_frozen hv1 0
   have HS1 := Aside0.mk hs1
   have HV1 := Aside0.mk hv1
   have HB1 := Aside0.mk hb1
   clear hs1 hb1 hg1 hne
   refine pureY (i := 6) (N := some 22) (v := ?_) (a' := ?_) #[true, true, true, true, true, true, true, false] rfl rfl (by kernel_rfl) ⟨by rfl, ?_⟩ ?_ ?_
   rotate_left
   · intro w'
     go_simp
     with_reducible rfl
   rotate_left
   · simp only [Act.put, sA_, i64_w, i32_w]
     rfl
   refine last_ (i := 7) (N := none) #[true, true, true, true, true, true, true, true] rfl rfl (by kernel_rfl) (by decide) (fun K hK => ?_)
   refine skip_ (w1 := w1.setCell ⟨w.heap.size + 1, 0, none⟩ (.slice A1 (L ++ [(⟨⟨q.f0.f0.f0, q.f0.f0.f1⟩, q.f2, q.f3, q.f4, q.f5, q.f6, q.f1, q.f0.f1⟩ : S32)]).length c1)) (by rfl) rfl ?_ ?_
   · go_simp
   refine hK.out _ _ ?_
   clear hK K
   refine done_ (by kernel_rfl) ?_
   have HR9 := Aside0.mk (show TbAt w (w1.setCell ⟨w.heap.size + 1, 0, none⟩ (.slice A1 (L.length + 1) c1)) ((l.take (k + 1)).map rowT) by rw [HD.out, show L.length + 1 = (L ++ [(⟨⟨q.f0.f0.f0, q.f0.f0.f1⟩, q.f2, q.f3, q.f4, q.f5, q.f6, q.f1, q.f0.f1⟩ : S32)]).length by simp]; exact ⟨blk_far h21.out (p := ⟨w.heap.size + 1, 0, none⟩) (by show w.heap.size ≠ w.heap.size + 1; omega) _, ⟨_, blk_put HV1.out 0 _ rfl, Kd.S_set HS1.out HV1.out (by decide) 0 _⟩, below_set HB1.out (by show w.heap.size ≤ w.heap.size + 1; omega)⟩)
   clear hcv1 hfv1
   have HWk := Aside0.mk (show wrap64 ((k : Int) + 1) = ((k + 1 : Nat) : Int) by have := G.out.1; unfold wrap64; omega)
   go_wp2
   rw [HWk.out]
   go_roundw
   case rel => exact ⟨k + 1, by omega, rfl, HR9⟩
   case measure => simp [intOf]; omega
  obtain rfl : k = l.length := by omega
  have ql : decide (l.length < l.length) = false := decide_eq_false hlt
  rw [List.take_length] at HA
  obtain ⟨v, hv, hs⟩ := HA.out.hg
  have HV := Aside0.mk hv
  have HSv := Aside0.mk hs
  have hcv : wr.cell? ⟨w.heap.size + 1, 0, none⟩ = some v := (blk_cell hv 0).trans rfl
  have hc2 : wr.cell? ⟨w.heap.size, 0, none⟩ = some (.slice none 0 0) := (blk_cell HA.out.h2 0).trans rfl
  have hf2 := blk_frozen HA.out.h2 0
  clear hlt hk hv hs
  obtain ⟨A1, c1, rfl⟩ := Kd.S_slice HSv.out
  go_wp2
  refine bodyPost_ret (results_cell_row rfl _ _ w.heap.size 36 #[.slice A1 (l.map rowT).length c1] (0, 0) _ rfl (blk_put HA.out.h2 0 _ (by rw [List.length_map]; rfl)) Tryd.underlying36 rfl (by kernel_rfl)) rfl ?_
  exact ⟨_, rfl, Kd.S_set HSv.out HA.out.h2 (by decide) 0 _, below_set HA.out.bel (Nat.le_refl _)⟩
end Go.Proofs.YtnbohlcibgfjaaaDoor.Gp
end
