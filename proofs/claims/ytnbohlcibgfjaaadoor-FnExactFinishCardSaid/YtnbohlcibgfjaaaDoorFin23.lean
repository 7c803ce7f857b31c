/- A part of the proof of RowFnExactFinish: each text's theorems that it needs, packed by shake.py, a program of this work; Lean checks them. -/
import Derived.Test.YtnbohlcibgfjaaaDoorFin3
import Derived.Test.YtnbohlcibgfjaaaDoorFin20
import Derived.Test.YtnbohlcibgfjaaaDoorFin22
section
namespace Go.Proofs.YtnbohlcibgfjaaaDoor.Gp
open Go.RowKit Go.Proofs.YtnbohlcibgfjaaaDoorW.PrintWords Go.Proofs.YtnbohlcibgfjaaaDoorW.PrintLast Go.Proofs.YtnbohlcibgfjaaaDoorW.PrintMore
set_option linter.unusedVariables false
set_option linter.unusedSimpArgs false
def fnRow (q : RwT) (rev : Int) (val : ByteArray) (ds : List S29) (ch : Int) : RwT := ⟨⟨q.f0.f0, 0⟩, 0, true, val, ds, rev, ch⟩
def impl_rows_finish.ch (q : RwT) (rev : Int) (val : ByteArray) : Int := if q.f2 = true then (if q.f3.toList = val.toList then q.f6 else rev) else rev
def impl_rows_finish.at (L : List RwT) (wk rev : Int) (val : ByteArray) (ds : List S29) (i : Int) : Int × List RwT := if (rd_T101 L i).f1 = wrap64 (wk + 1) ∧ (rd_T101 L i).f0.f1 = rev then (if (rd_T101 L i).f2 = true ∧ (rd_T101 L i).f5 > rev then (1, L) else (0, L.set i.toNat (fnRow (rd_T101 L i) rev val ds (impl_rows_finish.ch (rd_T101 L i) rev val)))) else (1, L)
def impl_rows_finish.fo (L : List RwT) (wk rev : Int) (val : ByteArray) (ds : List S29) : Option Int → Int × List RwT
 | none => (1, L)
 | some i => impl_rows_finish.at L wk rev val ds i
def impl_rows_finish.f (k : Nat) (L : List RwT) (b0 : Int) (b1 : ByteArray) (wk rev : Int) (val : ByteArray) (ds : List S29) : Option (Int × List RwT) := if ds.length < 4398046511104 then (impl_ordered_impl_Key_impl_row_find.f k L b0 b1).bind fun o => some (impl_rows_finish.fo L wk rev val ds o) else none
theorem impl_rows_finish.widen {α : Type} {d : Kd α} {e : Nat} {w0 wi W : World} {g n cap : Nat} {xs : List α} {i : Int} {oki : Nat → Prop} {c : List Value} (h : Hol d e w0 wi W (fun _ => True) g n cap xs i oki c) : Hol d e w0 wi W (fun _ => True) g n cap xs i (fun k => oki k ∨ True ∧ W.heap.size ≤ k) c :=
 ⟨Kd.H_widen h.H, h.i0, h.i1, fun k hk => ⟨trivial, hk.elim (fun x => (h.ne k x).2) (fun x => by have := h.own.2.2.1; omega)⟩, h.kept, h.bel⟩
set_option maxHeartbeats 32000000 in
set_option maxRecDepth 100000 in
theorem impl_rows_finish.finish (k g : Nat) (L : List RwT) (b0 : Int) (b1 : ByteArray) (wk rev : Int) (val : ByteArray) (ds : List S29) (Ad : Option Addr) (cd : Nat) (c : Int) (L' : List RwT) (w0 w : World) (hR : RowsAt w0 w g L) (hd : Kd.C k29 w0 Ad ds.length ds) (hcd : ds.length ≤ cd) (h : impl_rows_finish.f k L b0 b1 wk rev val ds = some (c, L')) :
 Calls Tryd.prog 89 #[.pointer (some ⟨g, 0, none⟩), .agg #[.int .i64 b0, .string b1], .int .i64 wk, .int .i64 rev, .string val, .slice Ad ds.length cd] w fun e w' => e = .returned (.int .i64 c) ∧ RowsAt w0 w' g L' := by
 have hu1 := Tryd.underlying101
 have hu2 := Tryd.underlying29
 have hu3 := Tryd.underlying99
 have hu4 := Tryd.underlying95
 have hu5 := Tryd.underlying97
 have hu6 := Tryd.underlying30
 unfold impl_rows_finish.f at h
 by_cases hdl : ds.length < 4398046511104
 case neg => rw [if_neg hdl] at h; cases h
 rw [if_pos hdl] at h
 have HD := Aside0.mk hd
 have HCD := Aside0.mk hcd
 have HDL := Aside0.mk hdl
 clear hd hcd hdl
 obtain ⟨o, ho, h⟩ := Option.bind_eq_some_iff.mp h
 have h := Option.some.inj h
 have LEg := Aside0.mk hR.le
 have HBel := Aside0.mk hR.bel
 obtain ⟨v, hv, hs⟩ := hR.hg
 obtain ⟨A, cA, rfl⟩ := Kd.S_slice hs
 have HOR := Aside0.mk (show OrdAt w g A cA L from ⟨(blk_cell hv 0).trans rfl, (blk_cell hv 1).trans rfl, (blk_cell hv 2).trans rfl, (Kd.S_reads' hs).2.2⟩)
 have HV := Aside0.mk hv
 have HS := Aside0.mk hs
 have HF := Aside0.mk ho
 have H := Aside0.mk h
 clear hR hv hs ho h
 go_enter Tryd.func89, Tryd.ntmps89
 go_wp2
 obtain ⟨W2, hW2⟩ : ∃ W2 : World, W2 = w.alloc (.cells #[.int .i64 b0, .string b1] 29) := ⟨_, rfl⟩
 rw [← hW2]
 have hb2 : Below w.heap.size w W2 := by rw [hW2]; exact below_alloc (Below.refl _ _) _
 have hx9 : W2.heap[w.heap.size]? = some (.cells #[.int .i64 b0, .string b1] 29 (0, 0)) := by rw [hW2]; exact blk_new _ _
 clear hW2
 have HB2 := Aside0.mk hb2
 have HX9 := Aside0.mk hx9
 clear hb2 hx9
 refine start_ (n := 6) (S := fun w' => w'.cell? ⟨w.heap.size, 0, none⟩ = some (.int .i64 b0) ∧ w'.cell? ⟨w.heap.size, 1, none⟩ = some (.string b1)) (ds := []) #[false, false, false, false, false, false] (by kernel_rfl) rfl rfl ⟨(blk_cell HX9.out 0).trans rfl, (blk_cell HX9.out 1).trans rfl⟩ (fun hHeld => ?_)
 refine pureY (i := 0) (N := some 14) (v := ?_) (a' := ?_) #[true, false, false, false, false, false] rfl rfl (by kernel_rfl) ⟨by rfl, ?_⟩ ?_ ?_
 rotate_left
 · intro w'
   go_simp
   with_reducible rfl
 rotate_left
 · simp only [Act.put, sA_, i64_w, i32_w]
   rfl
 refine pureY (i := 1) (N := some 15) (v := ?_) (a' := ?_) #[true, true, false, false, false, false] rfl rfl (by kernel_rfl) ⟨by rfl, ?_⟩ ?_ ?_
 rotate_left
 · intro w'
   go_simp
   with_reducible rfl
 rotate_left
 · simp only [Act.put, sA_, i64_w, i32_w]
   rfl
 refine pureY (i := 2) (N := some 16) (v := ?_) (a' := ?_) #[true, true, true, false, false, false] rfl rfl (by kernel_rfl) ⟨by rfl, ?_⟩ ?_ ?_
 rotate_left
 · intro w'
   go_simp
   with_reducible rfl
 rotate_left
 · simp only [Act.put, sA_, i64_w, i32_w]
   rfl
 refine takeY (i := 3) (N := some 17) (v := ?_) (a' := ?_) #[true, true, true, true, false, false] rfl rfl (by kernel_rfl) ⟨by rfl, ?_⟩ hHeld ?_ ?_
 rotate_left
 · rintro w' ⟨s0, s1⟩
   go_simp
   with_reducible rfl
 rotate_left
 · simp only [Act.put, sA_, i64_w, i32_w]
   rfl
 refine one_ (i := 4) (N := some 18) #[true, true, true, true, true, false] rfl rfl (by kernel_rfl) (by decide) (fun K hK => ?_)
 refine goes_ Tryd.func59 rfl rfl #[.pointer (some ⟨g, 0, none⟩), .agg #[.int .i64 b0, .string b1]] rfl rfl rfl (by (try simp only [List.map_toArray, List.map_cons, List.map_nil, List.append_toArray, List.append_nil, List.nil_append, List.cons_append]); rfl) ?_
 refine (impl_ordered_impl_Key_impl_row_find.find k A cA L b0 b1 g o _ ((HOR.out.keep HB2.out).keep (below_drew1 (Below.refl _ _))) HF.out).mono ?_
 rintro e w8 ⟨rfl, hb8, hrg⟩
 refine ⟨_, rfl, ?_⟩
 refine hK.out _ _ ⟨pw_cell_below hb8 hHeld.1, pw_cell_below hb8 hHeld.2⟩ (fun hHeld => ?_)
 clear hK K
 refine norm_ (a' := ?_) ?_ ?_
 rotate_left
 · show Act.put _ (some 18) _ = _
   simp only [Act.put, sA_, i64_w, i32_w]
   rfl
 have hb0 : Below w.heap.size w w8 := below_step (below_drew1 HB2.out) hb8
 have HV8 := Aside0.mk (blk_below HV.out hb0)
 have HS8 := Aside0.mk (Kd.S_below HS.out hb0)
 have HB8 := Aside0.mk (below_step HBel.out hb0)
 have HRG := Aside0.mk hrg
 clear hb0 hb8 hrg
 refine pureY (i := 5) (N := some 13) (v := ?_) (a' := ?_) #[true, true, true, true, true, true] rfl rfl (by kernel_rfl) ⟨by rfl, ?_⟩ ?_ ?_
 rotate_left
 · intro w'
   go_simp
   with_reducible rfl
 rotate_left
 · simp only [Act.put, sA_, i64_w, i32_w]
   rfl
 refine done_ (by kernel_rfl) ?_
 clear hHeld
 cases o with
 | none =>
  have h := H.out
  injection h with h1 h2
  subst h1 h2
  have hp : ptrRow A none = .pointer none := by cases A <;> rfl
  rw [hp]
  clear hp H
  go_wp2
  go_ret
  exact ⟨rfl, ⟨⟨_, HV8.out, HS8.out⟩, LEg.out, HB8.out⟩⟩
 | some i =>
  obtain ⟨g0, g1⟩ := HRG.out i rfl
  have h := H.out
  clear H
  change impl_rows_finish.at L wk rev val ds i = _ at h
  unfold impl_rows_finish.at at h
  obtain ⟨gR, capR, hvR, _⟩ := Kd.S_form HS8.out (by omega)
  injection hvR with hAR hnR hcR
  subst hAR hcR
  clear hnR
  have hneG : g ≠ gR := fun e => Kd.S_ne HS8.out HV8.out (by decide) (by rw [e]; simp [Value.ownBlock])
  have HNE := Aside0.mk hneG
  clear hneG
  obtain ⟨oki, cc, hM, hol⟩ := Hol.start (i := i) (wi := w8) HS8.out z101 g0 g1 (Kept.refl _ _) HB8.out
  obtain ⟨v6, rfl, hR6⟩ := k101_openM hM
  clear hM
  change Hol _ _ _ _ _ _ _ _ _ _ _ _ [.int .i64 (rd_T101 L i).f0.f0.f0, .string (rd_T101 L i).f0.f0.f1, .int .i64 (rd_T101 L i).f0.f1, .int .i64 (rd_T101 L i).f1, .bool (rd_T101 L i).f2, .string (rd_T101 L i).f3, v6, .int .i64 (rd_T101 L i).f5, .int .i64 (rd_T101 L i).f6] at hol
  change Kd.R _ _ _ _ _ _ (rd_T101 L i).f4 at hR6
  obtain ⟨q, hq⟩ : ∃ q, q = rd_T101 L i := ⟨_, rfl⟩
  rw [← hq] at hol hR6
  try rw [← hq] at h
  clear hq
  obtain ⟨A6, c6, rfl⟩ := Kd.R_slice hR6
  obtain ⟨o, ho⟩ : ∃ o, o = i.toNat * 9 := ⟨_, rfl⟩
  simp only [ptrRow, addr_at]
  rw [← ho]
  have HO := Aside0.mk ho
  have H0 := Aside0.mk hol
  have R0 := Aside0.mk hR6
  clear ho hol hR6
  clear g0 g1
  have hx2 : w8.cell? ⟨gR, o + 2, none⟩ = some (.int .i64 q.f0.f1) := by rw [HO.out]; exact H0.out.cell (j := 2) rfl
  have hx3 : w8.cell? ⟨gR, o + 3, none⟩ = some (.int .i64 q.f1) := by rw [HO.out]; exact H0.out.cell (j := 3) rfl
  by_cases c1 : q.f1 = wrap64 (wk + 1) ∧ q.f0.f1 = rev
  case neg =>
   rw [if_neg c1] at h
   have c1b : decide (q.f1 = wrap64 (wk + 1) ∧ q.f0.f1 = rev) = false := decide_eq_false c1
   clear c1
   injection h with h1 h2
   subst h1 h2
   go_wp2_with (first | (go_at_call 126; refine (impl_row_heldBy.held gR o q.f0.f1 q.f1 wk rev _ hx2 hx3).mono ?_; rintro e w9 ⟨rfl, hb⟩; have H9 := Aside0.mk (H0.out.below hb); have HV9 := Aside0.mk (blk_below HV8.out hb); have HS9 := Aside0.mk (Kd.S_below HS8.out hb); have HB9 := Aside0.mk (below_step HB8.out hb); have hz2 : w9.cell? ⟨gR, o + 2, none⟩ = some (.int .i64 q.f0.f1) := (by rw [HO.out]; exact H9.out.cell (j := 2) rfl); have hz3 : w9.cell? ⟨gR, o + 3, none⟩ = some (.int .i64 q.f1) := (by rw [HO.out]; exact H9.out.cell (j := 3) rfl); have hz4 : w9.cell? ⟨gR, o + 4, none⟩ = some (.bool q.f2) := (by rw [HO.out]; exact H9.out.cell (j := 4) rfl); have hz5 : w9.cell? ⟨gR, o + 5, none⟩ = some (.string q.f3) := (by rw [HO.out]; exact H9.out.cell (j := 5) rfl); have hz6 : w9.cell? ⟨gR, o + 6, none⟩ = some (.slice A6 q.f4.length c6) := (by rw [HO.out]; exact H9.out.cell (j := 6) rfl); have hz7 : w9.cell? ⟨gR, o + 7, none⟩ = some (.int .i64 q.f5) := (by rw [HO.out]; exact H9.out.cell (j := 7) rfl); have hz8 : w9.cell? ⟨gR, o + 8, none⟩ = some (.int .i64 q.f6) := (by rw [HO.out]; exact H9.out.cell (j := 8) rfl); have hf2 : w9.frozen? ⟨gR, o + 2, none⟩ = false := H9.out.frozen (o + 2); have hf3 : w9.frozen? ⟨gR, o + 3, none⟩ = false := H9.out.frozen (o + 3); have hf4 : w9.frozen? ⟨gR, o + 4, none⟩ = false := H9.out.frozen (o + 4); have hf5 : w9.frozen? ⟨gR, o + 5, none⟩ = false := H9.out.frozen (o + 5); have hf6 : w9.frozen? ⟨gR, o + 6, none⟩ = false := H9.out.frozen (o + 6); have hf7 : w9.frozen? ⟨gR, o + 7, none⟩ = false := H9.out.frozen (o + 7); have hf8 : w9.frozen? ⟨gR, o + 8, none⟩ = false := H9.out.frozen (o + 8); clear hb hx2 hx3 H0 R0))
   go_ret
   exact ⟨rfl, ⟨⟨_, HV9.out, HS9.out⟩, LEg.out, HB9.out⟩⟩
  rw [if_pos c1] at h
  have c1b : decide (q.f1 = wrap64 (wk + 1) ∧ q.f0.f1 = rev) = true := decide_eq_true c1
  clear c1
  unfold impl_rows_finish.ch at h
  by_cases c2 : q.f2 = true
  case neg =>
   rw [if_neg (fun g => c2 g.1), if_neg c2] at h
   have c2b : q.f2 = false := by simpa using c2
   clear c2
   have HE := Aside0.mk h
   clear h
   go_wp2_with (first | (go_at_call 126; refine (impl_row_heldBy.held gR o q.f0.f1 q.f1 wk rev _ hx2 hx3).mono ?_; rintro e w9 ⟨rfl, hb⟩; have H9 := Aside0.mk (H0.out.below hb); have HV9 := Aside0.mk (blk_below HV8.out hb); have HS9 := Aside0.mk (Kd.S_below HS8.out hb); have HB9 := Aside0.mk (below_step HB8.out hb); have hz2 : w9.cell? ⟨gR, o + 2, none⟩ = some (.int .i64 q.f0.f1) := (by rw [HO.out]; exact H9.out.cell (j := 2) rfl); have hz3 : w9.cell? ⟨gR, o + 3, none⟩ = some (.int .i64 q.f1) := (by rw [HO.out]; exact H9.out.cell (j := 3) rfl); have hz4 : w9.cell? ⟨gR, o + 4, none⟩ = some (.bool q.f2) := (by rw [HO.out]; exact H9.out.cell (j := 4) rfl); have hz5 : w9.cell? ⟨gR, o + 5, none⟩ = some (.string q.f3) := (by rw [HO.out]; exact H9.out.cell (j := 5) rfl); have hz6 : w9.cell? ⟨gR, o + 6, none⟩ = some (.slice A6 q.f4.length c6) := (by rw [HO.out]; exact H9.out.cell (j := 6) rfl); have hz7 : w9.cell? ⟨gR, o + 7, none⟩ = some (.int .i64 q.f5) := (by rw [HO.out]; exact H9.out.cell (j := 7) rfl); have hz8 : w9.cell? ⟨gR, o + 8, none⟩ = some (.int .i64 q.f6) := (by rw [HO.out]; exact H9.out.cell (j := 8) rfl); have hf2 : w9.frozen? ⟨gR, o + 2, none⟩ = false := H9.out.frozen (o + 2); have hf3 : w9.frozen? ⟨gR, o + 3, none⟩ = false := H9.out.frozen (o + 3); have hf4 : w9.frozen? ⟨gR, o + 4, none⟩ = false := H9.out.frozen (o + 4); have hf5 : w9.frozen? ⟨gR, o + 5, none⟩ = false := H9.out.frozen (o + 5); have hf6 : w9.frozen? ⟨gR, o + 6, none⟩ = false := H9.out.frozen (o + 6); have hf7 : w9.frozen? ⟨gR, o + 7, none⟩ = false := H9.out.frozen (o + 7); have hf8 : w9.frozen? ⟨gR, o + 8, none⟩ = false := H9.out.frozen (o + 8); clear hb hx2 hx3 H0 R0) | (go_at_call 118; obtain ⟨WA, hWA⟩ : ∃ W_ : World, W_ = w9.setCell ⟨gR, o + 8, none⟩ (.int .i64 rev) := ⟨_, rfl⟩; rw [← hWA]; have HA := Aside0.mk (show Hol k101 101 w0 w8 WA (fun _ => True) gR L.length cA L i oki [.int .i64 q.f0.f0.f0, .string q.f0.f0.f1, .int .i64 q.f0.f1, .int .i64 q.f1, .bool q.f2, .string q.f3, .slice A6 q.f4.length c6, .int .i64 q.f5, .int .i64 rev] by rw [hWA, HO.out]; exact H9.out.put 8 (.int .i64 rev) (by decide) rfl rfl); have hva_ := blk_far HV9.out (p := ⟨gR, o + 8, none⟩) HNE.out (.int .i64 rev); rw [← hWA] at hva_; have HVA := Aside0.mk hva_; clear hva_ hWA; refine (slices_Clone_impl_Key_impl_Key.calls Ad cd ds ds _ (Kd.C_below HD.out HA.out.bel) HCD.out (if_pos HDL.out)).mono ?_; rintro e w10 ⟨v9, rfl, hR9, hb⟩; obtain ⟨A9, c9, rfl⟩ := Kd.R_slice hR9; have H10 := Aside0.mk (show Hol k101 101 w0 w8 w10 (fun _ => True) gR L.length cA L i (fun k => oki k ∨ True ∧ WA.heap.size ≤ k) [.int .i64 q.f0.f0.f0, .string q.f0.f0.f1, .int .i64 q.f0.f1, .int .i64 q.f1, .bool q.f2, .string q.f3, .slice A6 q.f4.length c6, .int .i64 q.f5, .int .i64 rev] from (impl_rows_finish.widen HA.out).below hb); have HV10 := Aside0.mk (blk_below HVA.out hb); have R10 := Aside0.mk (show Kd.R k29 29 w10 w0.heap.size (fun k => oki k ∨ True ∧ WA.heap.size ≤ k) (.slice A9 ds.length c9) ds from Kd.R_lower (Kd.R_mono (Kd.R_bound hR9) (fun k hk => Or.inr ⟨trivial, hk.2.1⟩)) (below_size HA.out.bel)); clear hz2 hf2 hz3 hf3 hz4 hf4 hz5 hf5 hz6 hf6 hz7 hf7 hz8 hf8 hb hR9 HA HVA; have hy2 : w10.cell? ⟨gR, o + 2, none⟩ = some (.int .i64 q.f0.f1) := (by rw [HO.out]; exact H10.out.cell (j := 2) rfl); have hy3 : w10.cell? ⟨gR, o + 3, none⟩ = some (.int .i64 q.f1) := (by rw [HO.out]; exact H10.out.cell (j := 3) rfl); have hy4 : w10.cell? ⟨gR, o + 4, none⟩ = some (.bool q.f2) := (by rw [HO.out]; exact H10.out.cell (j := 4) rfl); have hy5 : w10.cell? ⟨gR, o + 5, none⟩ = some (.string q.f3) := (by rw [HO.out]; exact H10.out.cell (j := 5) rfl); have hy6 : w10.cell? ⟨gR, o + 6, none⟩ = some (.slice A6 q.f4.length c6) := (by rw [HO.out]; exact H10.out.cell (j := 6) rfl); have hy7 : w10.cell? ⟨gR, o + 7, none⟩ = some (.int .i64 q.f5) := (by rw [HO.out]; exact H10.out.cell (j := 7) rfl); have hy8 : w10.cell? ⟨gR, o + 8, none⟩ = some (.int .i64 rev) := (by rw [HO.out]; exact H10.out.cell (j := 8) rfl); have hg2 : w10.frozen? ⟨gR, o + 2, none⟩ = false := H10.out.frozen (o + 2); have hg3 : w10.frozen? ⟨gR, o + 3, none⟩ = false := H10.out.frozen (o + 3); have hg4 : w10.frozen? ⟨gR, o + 4, none⟩ = false := H10.out.frozen (o + 4); have hg5 : w10.frozen? ⟨gR, o + 5, none⟩ = false := H10.out.frozen (o + 5); have hg6 : w10.frozen? ⟨gR, o + 6, none⟩ = false := H10.out.frozen (o + 6); have hg7 : w10.frozen? ⟨gR, o + 7, none⟩ = false := H10.out.frozen (o + 7); have hg8 : w10.frozen? ⟨gR, o + 8, none⟩ = false := H10.out.frozen (o + 8)) | (go_at_call 123; clear hy2 hg2 hy3 hg3 hy4 hg4 hy5 hg5 hy6 hg6 hy7 hg7 hy8 hg8; obtain ⟨WD0, hWD0⟩ : ∃ W_ : World, W_ = w10.setCell ⟨gR, o + 4, none⟩ (.bool true) := ⟨_, rfl⟩; rw [← hWD0]; have HWD0 := Aside0.mk (show Hol k101 101 w0 w8 WD0 (fun _ => True) gR L.length cA L i (fun k => oki k ∨ True ∧ WA.heap.size ≤ k) [.int .i64 q.f0.f0.f0, .string q.f0.f0.f1, .int .i64 q.f0.f1, .int .i64 q.f1, .bool true, .string q.f3, .slice A6 q.f4.length c6, .int .i64 q.f5, .int .i64 rev] by rw [hWD0, HO.out]; exact H10.out.put 4 (.bool true) (by decide) rfl rfl); have RWD0 := Aside0.mk (show Kd.R k29 29 WD0 w0.heap.size (fun k => oki k ∨ True ∧ WA.heap.size ≤ k) (.slice A9 ds.length c9) ds by rw [hWD0]; exact H10.out.innerSet R10.out _ _); have hva_ := blk_far HV10.out (p := ⟨gR, o + 4, none⟩) HNE.out (.bool true); rw [← hWD0] at hva_; have HVWD0 := Aside0.mk hva_; clear hva_ hWD0 H10 R10 HV10; obtain ⟨WD1, hWD1⟩ : ∃ W_ : World, W_ = WD0.setCell ⟨gR, o + 5, none⟩ (.string val) := ⟨_, rfl⟩; rw [← hWD1]; have HWD1 := Aside0.mk (show Hol k101 101 w0 w8 WD1 (fun _ => True) gR L.length cA L i (fun k => oki k ∨ True ∧ WA.heap.size ≤ k) [.int .i64 q.f0.f0.f0, .string q.f0.f0.f1, .int .i64 q.f0.f1, .int .i64 q.f1, .bool true, .string val, .slice A6 q.f4.length c6, .int .i64 q.f5, .int .i64 rev] by rw [hWD1, HO.out]; exact HWD0.out.put 5 (.string val) (by decide) rfl rfl); have RWD1 := Aside0.mk (show Kd.R k29 29 WD1 w0.heap.size (fun k => oki k ∨ True ∧ WA.heap.size ≤ k) (.slice A9 ds.length c9) ds by rw [hWD1]; exact HWD0.out.innerSet RWD0.out _ _); have hva_ := blk_far HVWD0.out (p := ⟨gR, o + 5, none⟩) HNE.out (.string val); rw [← hWD1] at hva_; have HVWD1 := Aside0.mk hva_; clear hva_ hWD1 HWD0 RWD0 HVWD0; obtain ⟨WD2, hWD2⟩ : ∃ W_ : World, W_ = WD1.setCell ⟨gR, o + 6, none⟩ (.slice A9 ds.length c9) := ⟨_, rfl⟩; rw [← hWD2]; have HWD2 := Aside0.mk (show Hol k101 101 w0 w8 WD2 (fun _ => True) gR L.length cA L i (fun k => oki k ∨ True ∧ WA.heap.size ≤ k) [.int .i64 q.f0.f0.f0, .string q.f0.f0.f1, .int .i64 q.f0.f1, .int .i64 q.f1, .bool true, .string val, .slice A9 ds.length c9, .int .i64 q.f5, .int .i64 rev] by rw [hWD2, HO.out]; exact HWD1.out.put 6 (.slice A9 ds.length c9) (by decide) rfl rfl); have RWD2 := Aside0.mk (show Kd.R k29 29 WD2 w0.heap.size (fun k => oki k ∨ True ∧ WA.heap.size ≤ k) (.slice A9 ds.length c9) ds by rw [hWD2]; exact HWD1.out.innerSet RWD1.out _ _); have hva_ := blk_far HVWD1.out (p := ⟨gR, o + 6, none⟩) HNE.out (.slice A9 ds.length c9); rw [← hWD2] at hva_; have HVWD2 := Aside0.mk hva_; clear hva_ hWD2 HWD1 RWD1 HVWD1; obtain ⟨WD3, hWD3⟩ : ∃ W_ : World, W_ = WD2.setCell ⟨gR, o + 7, none⟩ (.int .i64 rev) := ⟨_, rfl⟩; rw [← hWD3]; have HWD3 := Aside0.mk (show Hol k101 101 w0 w8 WD3 (fun _ => True) gR L.length cA L i (fun k => oki k ∨ True ∧ WA.heap.size ≤ k) [.int .i64 q.f0.f0.f0, .string q.f0.f0.f1, .int .i64 q.f0.f1, .int .i64 q.f1, .bool true, .string val, .slice A9 ds.length c9, .int .i64 rev, .int .i64 rev] by rw [hWD3, HO.out]; exact HWD2.out.put 7 (.int .i64 rev) (by decide) rfl rfl); have RWD3 := Aside0.mk (show Kd.R k29 29 WD3 w0.heap.size (fun k => oki k ∨ True ∧ WA.heap.size ≤ k) (.slice A9 ds.length c9) ds by rw [hWD3]; exact HWD2.out.innerSet RWD2.out _ _); have hva_ := blk_far HVWD2.out (p := ⟨gR, o + 7, none⟩) HNE.out (.int .i64 rev); rw [← hWD3] at hva_; have HVWD3 := Aside0.mk hva_; clear hva_ hWD3 HWD2 RWD2 HVWD2; refine (impl_row_free.free gR o q.f0.f1 q.f1 _ (by rw [HO.out]; exact HWD3.out.cell (j := 2) rfl) (by rw [HO.out]; exact HWD3.out.cell (j := 3) rfl) (HWD3.out.frozen _) (HWD3.out.frozen _)).mono ?_; rintro e W10 ⟨rfl, hW10⟩; have HW10 := Aside0.mk hW10; clear hW10))
   go_ret
   obtain ⟨WB, hWB⟩ : ∃ W_ : World, W_ = WD3.setCell ⟨gR, o + 3, none⟩ (.int .i64 0) := ⟨_, rfl⟩
   have HBh : Hol k101 101 w0 w8 WB (fun _ => True) gR L.length cA L i (fun k => oki k ∨ True ∧ WA.heap.size ≤ k) [.int .i64 q.f0.f0.f0, .string q.f0.f0.f1, .int .i64 q.f0.f1, .int .i64 0, .bool true, .string val, .slice A9 ds.length c9, .int .i64 rev, .int .i64 rev] := by rw [hWB, HO.out]; exact HWD3.out.put 3 (.int .i64 0) (by decide) rfl rfl
   have RB : Kd.R k29 29 WB w0.heap.size (fun k => oki k ∨ True ∧ WA.heap.size ≤ k) (.slice A9 ds.length c9) ds := by rw [hWB]; exact HWD3.out.innerSet RWD3.out _ _
   have HC : Hol k101 101 w0 w8 W10 (fun _ => True) gR L.length cA L i (fun k => oki k ∨ True ∧ WA.heap.size ≤ k) [.int .i64 q.f0.f0.f0, .string q.f0.f0.f1, .int .i64 0, .int .i64 0, .bool true, .string val, .slice A9 ds.length c9, .int .i64 rev, .int .i64 rev] := by rw [HW10.out, ← hWB, HO.out]; exact HBh.put 2 (.int .i64 0) (by decide) rfl rfl
   have RC : Kd.R k29 29 W10 w0.heap.size (fun k => oki k ∨ True ∧ WA.heap.size ≤ k) (.slice A9 ds.length c9) ds := by rw [HW10.out, ← hWB]; exact HBh.innerSet RB _ _
   have hvC := blk_far (blk_far HVWD3.out (p := ⟨gR, o + 3, none⟩) HNE.out (.int .i64 0)) (p := ⟨gR, o + 2, none⟩) HNE.out (.int .i64 0)
   rw [← HW10.out] at hvC
   have hS := HC.back (k101_mkM W10 w0.heap.size (fun k => oki k ∨ True ∧ WA.heap.size ≤ k) (fnRow q rev val ds rev) RC) (fun _ h => h)
   have h := HE.out
   injection h with h1 h2
   subst h1 h2
   exact ⟨rfl, ⟨⟨_, hvC, hS⟩, LEg.out, HC.bel⟩⟩
  by_cases c3 : q.f5 > rev
  case pos =>
   rw [if_pos ⟨c2, c3⟩] at h
   have c3b : decide (rev < q.f5) = true := decide_eq_true c3
   clear c3
   injection h with h1 h2
   subst h1 h2
   go_wp2_with (first | (go_at_call 126; refine (impl_row_heldBy.held gR o q.f0.f1 q.f1 wk rev _ hx2 hx3).mono ?_; rintro e w9 ⟨rfl, hb⟩; have H9 := Aside0.mk (H0.out.below hb); have HV9 := Aside0.mk (blk_below HV8.out hb); have HS9 := Aside0.mk (Kd.S_below HS8.out hb); have HB9 := Aside0.mk (below_step HB8.out hb); have hz2 : w9.cell? ⟨gR, o + 2, none⟩ = some (.int .i64 q.f0.f1) := (by rw [HO.out]; exact H9.out.cell (j := 2) rfl); have hz3 : w9.cell? ⟨gR, o + 3, none⟩ = some (.int .i64 q.f1) := (by rw [HO.out]; exact H9.out.cell (j := 3) rfl); have hz4 : w9.cell? ⟨gR, o + 4, none⟩ = some (.bool q.f2) := (by rw [HO.out]; exact H9.out.cell (j := 4) rfl); have hz5 : w9.cell? ⟨gR, o + 5, none⟩ = some (.string q.f3) := (by rw [HO.out]; exact H9.out.cell (j := 5) rfl); have hz6 : w9.cell? ⟨gR, o + 6, none⟩ = some (.slice A6 q.f4.length c6) := (by rw [HO.out]; exact H9.out.cell (j := 6) rfl); have hz7 : w9.cell? ⟨gR, o + 7, none⟩ = some (.int .i64 q.f5) := (by rw [HO.out]; exact H9.out.cell (j := 7) rfl); have hz8 : w9.cell? ⟨gR, o + 8, none⟩ = some (.int .i64 q.f6) := (by rw [HO.out]; exact H9.out.cell (j := 8) rfl); have hf2 : w9.frozen? ⟨gR, o + 2, none⟩ = false := H9.out.frozen (o + 2); have hf3 : w9.frozen? ⟨gR, o + 3, none⟩ = false := H9.out.frozen (o + 3); have hf4 : w9.frozen? ⟨gR, o + 4, none⟩ = false := H9.out.frozen (o + 4); have hf5 : w9.frozen? ⟨gR, o + 5, none⟩ = false := H9.out.frozen (o + 5); have hf6 : w9.frozen? ⟨gR, o + 6, none⟩ = false := H9.out.frozen (o + 6); have hf7 : w9.frozen? ⟨gR, o + 7, none⟩ = false := H9.out.frozen (o + 7); have hf8 : w9.frozen? ⟨gR, o + 8, none⟩ = false := H9.out.frozen (o + 8); clear hb hx2 hx3 H0 R0))
   go_ret
   exact ⟨rfl, ⟨⟨_, HV9.out, HS9.out⟩, LEg.out, HB9.out⟩⟩
  rw [if_neg (fun g => c3 g.2), if_pos c2] at h
  have c3b : decide (rev < q.f5) = false := decide_eq_false c3
  clear c3
  by_cases c4 : q.f3.toList = val.toList
  case neg =>
   rw [if_neg c4] at h
   have c4b : (q.f3.toList != val.toList) = true := bne_iff_ne.2 c4
   have c4c : (q.f3.toList == val.toList) = false := beq_eq_false_iff_ne.2 c4
   clear c4
   have HE := Aside0.mk h
   clear h
   go_wp2_with (first | (go_at_call 126; refine (impl_row_heldBy.held gR o q.f0.f1 q.f1 wk rev _ hx2 hx3).mono ?_; rintro e w9 ⟨rfl, hb⟩; have H9 := Aside0.mk (H0.out.below hb); have HV9 := Aside0.mk (blk_below HV8.out hb); have HS9 := Aside0.mk (Kd.S_below HS8.out hb); have HB9 := Aside0.mk (below_step HB8.out hb); have hz2 : w9.cell? ⟨gR, o + 2, none⟩ = some (.int .i64 q.f0.f1) := (by rw [HO.out]; exact H9.out.cell (j := 2) rfl); have hz3 : w9.cell? ⟨gR, o + 3, none⟩ = some (.int .i64 q.f1) := (by rw [HO.out]; exact H9.out.cell (j := 3) rfl); have hz4 : w9.cell? ⟨gR, o + 4, none⟩ = some (.bool q.f2) := (by rw [HO.out]; exact H9.out.cell (j := 4) rfl); have hz5 : w9.cell? ⟨gR, o + 5, none⟩ = some (.string q.f3) := (by rw [HO.out]; exact H9.out.cell (j := 5) rfl); have hz6 : w9.cell? ⟨gR, o + 6, none⟩ = some (.slice A6 q.f4.length c6) := (by rw [HO.out]; exact H9.out.cell (j := 6) rfl); have hz7 : w9.cell? ⟨gR, o + 7, none⟩ = some (.int .i64 q.f5) := (by rw [HO.out]; exact H9.out.cell (j := 7) rfl); have hz8 : w9.cell? ⟨gR, o + 8, none⟩ = some (.int .i64 q.f6) := (by rw [HO.out]; exact H9.out.cell (j := 8) rfl); have hf2 : w9.frozen? ⟨gR, o + 2, none⟩ = false := H9.out.frozen (o + 2); have hf3 : w9.frozen? ⟨gR, o + 3, none⟩ = false := H9.out.frozen (o + 3); have hf4 : w9.frozen? ⟨gR, o + 4, none⟩ = false := H9.out.frozen (o + 4); have hf5 : w9.frozen? ⟨gR, o + 5, none⟩ = false := H9.out.frozen (o + 5); have hf6 : w9.frozen? ⟨gR, o + 6, none⟩ = false := H9.out.frozen (o + 6); have hf7 : w9.frozen? ⟨gR, o + 7, none⟩ = false := H9.out.frozen (o + 7); have hf8 : w9.frozen? ⟨gR, o + 8, none⟩ = false := H9.out.frozen (o + 8); clear hb hx2 hx3 H0 R0) | (go_at_call 118; obtain ⟨WA, hWA⟩ : ∃ W_ : World, W_ = w9.setCell ⟨gR, o + 8, none⟩ (.int .i64 rev) := ⟨_, rfl⟩; rw [← hWA]; have HA := Aside0.mk (show Hol k101 101 w0 w8 WA (fun _ => True) gR L.length cA L i oki [.int .i64 q.f0.f0.f0, .string q.f0.f0.f1, .int .i64 q.f0.f1, .int .i64 q.f1, .bool q.f2, .string q.f3, .slice A6 q.f4.length c6, .int .i64 q.f5, .int .i64 rev] by rw [hWA, HO.out]; exact H9.out.put 8 (.int .i64 rev) (by decide) rfl rfl); have hva_ := blk_far HV9.out (p := ⟨gR, o + 8, none⟩) HNE.out (.int .i64 rev); rw [← hWA] at hva_; have HVA := Aside0.mk hva_; clear hva_ hWA; refine (slices_Clone_impl_Key_impl_Key.calls Ad cd ds ds _ (Kd.C_below HD.out HA.out.bel) HCD.out (if_pos HDL.out)).mono ?_; rintro e w10 ⟨v9, rfl, hR9, hb⟩; obtain ⟨A9, c9, rfl⟩ := Kd.R_slice hR9; have H10 := Aside0.mk (show Hol k101 101 w0 w8 w10 (fun _ => True) gR L.length cA L i (fun k => oki k ∨ True ∧ WA.heap.size ≤ k) [.int .i64 q.f0.f0.f0, .string q.f0.f0.f1, .int .i64 q.f0.f1, .int .i64 q.f1, .bool q.f2, .string q.f3, .slice A6 q.f4.length c6, .int .i64 q.f5, .int .i64 rev] from (impl_rows_finish.widen HA.out).below hb); have HV10 := Aside0.mk (blk_below HVA.out hb); have R10 := Aside0.mk (show Kd.R k29 29 w10 w0.heap.size (fun k => oki k ∨ True ∧ WA.heap.size ≤ k) (.slice A9 ds.length c9) ds from Kd.R_lower (Kd.R_mono (Kd.R_bound hR9) (fun k hk => Or.inr ⟨trivial, hk.2.1⟩)) (below_size HA.out.bel)); clear hz2 hf2 hz3 hf3 hz4 hf4 hz5 hf5 hz6 hf6 hz7 hf7 hz8 hf8 hb hR9 HA HVA; have hy2 : w10.cell? ⟨gR, o + 2, none⟩ = some (.int .i64 q.f0.f1) := (by rw [HO.out]; exact H10.out.cell (j := 2) rfl); have hy3 : w10.cell? ⟨gR, o + 3, none⟩ = some (.int .i64 q.f1) := (by rw [HO.out]; exact H10.out.cell (j := 3) rfl); have hy4 : w10.cell? ⟨gR, o + 4, none⟩ = some (.bool q.f2) := (by rw [HO.out]; exact H10.out.cell (j := 4) rfl); have hy5 : w10.cell? ⟨gR, o + 5, none⟩ = some (.string q.f3) := (by rw [HO.out]; exact H10.out.cell (j := 5) rfl); have hy6 : w10.cell? ⟨gR, o + 6, none⟩ = some (.slice A6 q.f4.length c6) := (by rw [HO.out]; exact H10.out.cell (j := 6) rfl); have hy7 : w10.cell? ⟨gR, o + 7, none⟩ = some (.int .i64 q.f5) := (by rw [HO.out]; exact H10.out.cell (j := 7) rfl); have hy8 : w10.cell? ⟨gR, o + 8, none⟩ = some (.int .i64 rev) := (by rw [HO.out]; exact H10.out.cell (j := 8) rfl); have hg2 : w10.frozen? ⟨gR, o + 2, none⟩ = false := H10.out.frozen (o + 2); have hg3 : w10.frozen? ⟨gR, o + 3, none⟩ = false := H10.out.frozen (o + 3); have hg4 : w10.frozen? ⟨gR, o + 4, none⟩ = false := H10.out.frozen (o + 4); have hg5 : w10.frozen? ⟨gR, o + 5, none⟩ = false := H10.out.frozen (o + 5); have hg6 : w10.frozen? ⟨gR, o + 6, none⟩ = false := H10.out.frozen (o + 6); have hg7 : w10.frozen? ⟨gR, o + 7, none⟩ = false := H10.out.frozen (o + 7); have hg8 : w10.frozen? ⟨gR, o + 8, none⟩ = false := H10.out.frozen (o + 8)) | (go_at_call 123; clear hy2 hg2 hy3 hg3 hy4 hg4 hy5 hg5 hy6 hg6 hy7 hg7 hy8 hg8; obtain ⟨WD0, hWD0⟩ : ∃ W_ : World, W_ = w10.setCell ⟨gR, o + 4, none⟩ (.bool true) := ⟨_, rfl⟩; rw [← hWD0]; have HWD0 := Aside0.mk (show Hol k101 101 w0 w8 WD0 (fun _ => True) gR L.length cA L i (fun k => oki k ∨ True ∧ WA.heap.size ≤ k) [.int .i64 q.f0.f0.f0, .string q.f0.f0.f1, .int .i64 q.f0.f1, .int .i64 q.f1, .bool true, .string q.f3, .slice A6 q.f4.length c6, .int .i64 q.f5, .int .i64 rev] by rw [hWD0, HO.out]; exact H10.out.put 4 (.bool true) (by decide) rfl rfl); have RWD0 := Aside0.mk (show Kd.R k29 29 WD0 w0.heap.size (fun k => oki k ∨ True ∧ WA.heap.size ≤ k) (.slice A9 ds.length c9) ds by rw [hWD0]; exact H10.out.innerSet R10.out _ _); have hva_ := blk_far HV10.out (p := ⟨gR, o + 4, none⟩) HNE.out (.bool true); rw [← hWD0] at hva_; have HVWD0 := Aside0.mk hva_; clear hva_ hWD0 H10 R10 HV10; obtain ⟨WD1, hWD1⟩ : ∃ W_ : World, W_ = WD0.setCell ⟨gR, o + 5, none⟩ (.string val) := ⟨_, rfl⟩; rw [← hWD1]; have HWD1 := Aside0.mk (show Hol k101 101 w0 w8 WD1 (fun _ => True) gR L.length cA L i (fun k => oki k ∨ True ∧ WA.heap.size ≤ k) [.int .i64 q.f0.f0.f0, .string q.f0.f0.f1, .int .i64 q.f0.f1, .int .i64 q.f1, .bool true, .string val, .slice A6 q.f4.length c6, .int .i64 q.f5, .int .i64 rev] by rw [hWD1, HO.out]; exact HWD0.out.put 5 (.string val) (by decide) rfl rfl); have RWD1 := Aside0.mk (show Kd.R k29 29 WD1 w0.heap.size (fun k => oki k ∨ True ∧ WA.heap.size ≤ k) (.slice A9 ds.length c9) ds by rw [hWD1]; exact HWD0.out.innerSet RWD0.out _ _); have hva_ := blk_far HVWD0.out (p := ⟨gR, o + 5, none⟩) HNE.out (.string val); rw [← hWD1] at hva_; have HVWD1 := Aside0.mk hva_; clear hva_ hWD1 HWD0 RWD0 HVWD0; obtain ⟨WD2, hWD2⟩ : ∃ W_ : World, W_ = WD1.setCell ⟨gR, o + 6, none⟩ (.slice A9 ds.length c9) := ⟨_, rfl⟩; rw [← hWD2]; have HWD2 := Aside0.mk (show Hol k101 101 w0 w8 WD2 (fun _ => True) gR L.length cA L i (fun k => oki k ∨ True ∧ WA.heap.size ≤ k) [.int .i64 q.f0.f0.f0, .string q.f0.f0.f1, .int .i64 q.f0.f1, .int .i64 q.f1, .bool true, .string val, .slice A9 ds.length c9, .int .i64 q.f5, .int .i64 rev] by rw [hWD2, HO.out]; exact HWD1.out.put 6 (.slice A9 ds.length c9) (by decide) rfl rfl); have RWD2 := Aside0.mk (show Kd.R k29 29 WD2 w0.heap.size (fun k => oki k ∨ True ∧ WA.heap.size ≤ k) (.slice A9 ds.length c9) ds by rw [hWD2]; exact HWD1.out.innerSet RWD1.out _ _); have hva_ := blk_far HVWD1.out (p := ⟨gR, o + 6, none⟩) HNE.out (.slice A9 ds.length c9); rw [← hWD2] at hva_; have HVWD2 := Aside0.mk hva_; clear hva_ hWD2 HWD1 RWD1 HVWD1; obtain ⟨WD3, hWD3⟩ : ∃ W_ : World, W_ = WD2.setCell ⟨gR, o + 7, none⟩ (.int .i64 rev) := ⟨_, rfl⟩; rw [← hWD3]; have HWD3 := Aside0.mk (show Hol k101 101 w0 w8 WD3 (fun _ => True) gR L.length cA L i (fun k => oki k ∨ True ∧ WA.heap.size ≤ k) [.int .i64 q.f0.f0.f0, .string q.f0.f0.f1, .int .i64 q.f0.f1, .int .i64 q.f1, .bool true, .string val, .slice A9 ds.length c9, .int .i64 rev, .int .i64 rev] by rw [hWD3, HO.out]; exact HWD2.out.put 7 (.int .i64 rev) (by decide) rfl rfl); have RWD3 := Aside0.mk (show Kd.R k29 29 WD3 w0.heap.size (fun k => oki k ∨ True ∧ WA.heap.size ≤ k) (.slice A9 ds.length c9) ds by rw [hWD3]; exact HWD2.out.innerSet RWD2.out _ _); have hva_ := blk_far HVWD2.out (p := ⟨gR, o + 7, none⟩) HNE.out (.int .i64 rev); rw [← hWD3] at hva_; have HVWD3 := Aside0.mk hva_; clear hva_ hWD3 HWD2 RWD2 HVWD2; refine (impl_row_free.free gR o q.f0.f1 q.f1 _ (by rw [HO.out]; exact HWD3.out.cell (j := 2) rfl) (by rw [HO.out]; exact HWD3.out.cell (j := 3) rfl) (HWD3.out.frozen _) (HWD3.out.frozen _)).mono ?_; rintro e W10 ⟨rfl, hW10⟩; have HW10 := Aside0.mk hW10; clear hW10))
   go_ret
   obtain ⟨WB, hWB⟩ : ∃ W_ : World, W_ = WD3.setCell ⟨gR, o + 3, none⟩ (.int .i64 0) := ⟨_, rfl⟩
   have HBh : Hol k101 101 w0 w8 WB (fun _ => True) gR L.length cA L i (fun k => oki k ∨ True ∧ WA.heap.size ≤ k) [.int .i64 q.f0.f0.f0, .string q.f0.f0.f1, .int .i64 q.f0.f1, .int .i64 0, .bool true, .string val, .slice A9 ds.length c9, .int .i64 rev, .int .i64 rev] := by rw [hWB, HO.out]; exact HWD3.out.put 3 (.int .i64 0) (by decide) rfl rfl
   have RB : Kd.R k29 29 WB w0.heap.size (fun k => oki k ∨ True ∧ WA.heap.size ≤ k) (.slice A9 ds.length c9) ds := by rw [hWB]; exact HWD3.out.innerSet RWD3.out _ _
   have HC : Hol k101 101 w0 w8 W10 (fun _ => True) gR L.length cA L i (fun k => oki k ∨ True ∧ WA.heap.size ≤ k) [.int .i64 q.f0.f0.f0, .string q.f0.f0.f1, .int .i64 0, .int .i64 0, .bool true, .string val, .slice A9 ds.length c9, .int .i64 rev, .int .i64 rev] := by rw [HW10.out, ← hWB, HO.out]; exact HBh.put 2 (.int .i64 0) (by decide) rfl rfl
   have RC : Kd.R k29 29 W10 w0.heap.size (fun k => oki k ∨ True ∧ WA.heap.size ≤ k) (.slice A9 ds.length c9) ds := by rw [HW10.out, ← hWB]; exact HBh.innerSet RB _ _
   have hvC := blk_far (blk_far HVWD3.out (p := ⟨gR, o + 3, none⟩) HNE.out (.int .i64 0)) (p := ⟨gR, o + 2, none⟩) HNE.out (.int .i64 0)
   rw [← HW10.out] at hvC
   have hS := HC.back (k101_mkM W10 w0.heap.size (fun k => oki k ∨ True ∧ WA.heap.size ≤ k) (fnRow q rev val ds rev) RC) (fun _ h => h)
   have h := HE.out
   injection h with h1 h2
   subst h1 h2
   exact ⟨rfl, ⟨⟨_, hvC, hS⟩, LEg.out, HC.bel⟩⟩
  rw [if_pos c4] at h
  have c4b : (q.f3.toList != val.toList) = false := bne_eq_false_iff_eq.2 c4
  have c4c : (q.f3.toList == val.toList) = true := beq_iff_eq.2 c4
  clear c4
  have HE := Aside0.mk h
  clear h
  go_wp2_with (first | (go_at_call 126; refine (impl_row_heldBy.held gR o q.f0.f1 q.f1 wk rev _ hx2 hx3).mono ?_; rintro e w9 ⟨rfl, hb⟩; have H9 := Aside0.mk (H0.out.below hb); have HV9 := Aside0.mk (blk_below HV8.out hb); have HS9 := Aside0.mk (Kd.S_below HS8.out hb); have HB9 := Aside0.mk (below_step HB8.out hb); have hz2 : w9.cell? ⟨gR, o + 2, none⟩ = some (.int .i64 q.f0.f1) := (by rw [HO.out]; exact H9.out.cell (j := 2) rfl); have hz3 : w9.cell? ⟨gR, o + 3, none⟩ = some (.int .i64 q.f1) := (by rw [HO.out]; exact H9.out.cell (j := 3) rfl); have hz4 : w9.cell? ⟨gR, o + 4, none⟩ = some (.bool q.f2) := (by rw [HO.out]; exact H9.out.cell (j := 4) rfl); have hz5 : w9.cell? ⟨gR, o + 5, none⟩ = some (.string q.f3) := (by rw [HO.out]; exact H9.out.cell (j := 5) rfl); have hz6 : w9.cell? ⟨gR, o + 6, none⟩ = some (.slice A6 q.f4.length c6) := (by rw [HO.out]; exact H9.out.cell (j := 6) rfl); have hz7 : w9.cell? ⟨gR, o + 7, none⟩ = some (.int .i64 q.f5) := (by rw [HO.out]; exact H9.out.cell (j := 7) rfl); have hz8 : w9.cell? ⟨gR, o + 8, none⟩ = some (.int .i64 q.f6) := (by rw [HO.out]; exact H9.out.cell (j := 8) rfl); have hf2 : w9.frozen? ⟨gR, o + 2, none⟩ = false := H9.out.frozen (o + 2); have hf3 : w9.frozen? ⟨gR, o + 3, none⟩ = false := H9.out.frozen (o + 3); have hf4 : w9.frozen? ⟨gR, o + 4, none⟩ = false := H9.out.frozen (o + 4); have hf5 : w9.frozen? ⟨gR, o + 5, none⟩ = false := H9.out.frozen (o + 5); have hf6 : w9.frozen? ⟨gR, o + 6, none⟩ = false := H9.out.frozen (o + 6); have hf7 : w9.frozen? ⟨gR, o + 7, none⟩ = false := H9.out.frozen (o + 7); have hf8 : w9.frozen? ⟨gR, o + 8, none⟩ = false := H9.out.frozen (o + 8); clear hb hx2 hx3 H0 R0) | (go_at_call 118; have HA := H9; have HVA := HV9; refine (slices_Clone_impl_Key_impl_Key.calls Ad cd ds ds _ (Kd.C_below HD.out HA.out.bel) HCD.out (if_pos HDL.out)).mono ?_; rintro e w10 ⟨v9, rfl, hR9, hb⟩; obtain ⟨A9, c9, rfl⟩ := Kd.R_slice hR9; have H10 := Aside0.mk (show Hol k101 101 w0 w8 w10 (fun _ => True) gR L.length cA L i (fun k => oki k ∨ True ∧ w9.heap.size ≤ k) [.int .i64 q.f0.f0.f0, .string q.f0.f0.f1, .int .i64 q.f0.f1, .int .i64 q.f1, .bool q.f2, .string q.f3, .slice A6 q.f4.length c6, .int .i64 q.f5, .int .i64 q.f6] from (impl_rows_finish.widen HA.out).below hb); have HV10 := Aside0.mk (blk_below HVA.out hb); have R10 := Aside0.mk (show Kd.R k29 29 w10 w0.heap.size (fun k => oki k ∨ True ∧ w9.heap.size ≤ k) (.slice A9 ds.length c9) ds from Kd.R_lower (Kd.R_mono (Kd.R_bound hR9) (fun k hk => Or.inr ⟨trivial, hk.2.1⟩)) (below_size HA.out.bel)); clear hz2 hf2 hz3 hf3 hz4 hf4 hz5 hf5 hz6 hf6 hz7 hf7 hz8 hf8 hb hR9 HA HVA; have hy2 : w10.cell? ⟨gR, o + 2, none⟩ = some (.int .i64 q.f0.f1) := (by rw [HO.out]; exact H10.out.cell (j := 2) rfl); have hy3 : w10.cell? ⟨gR, o + 3, none⟩ = some (.int .i64 q.f1) := (by rw [HO.out]; exact H10.out.cell (j := 3) rfl); have hy4 : w10.cell? ⟨gR, o + 4, none⟩ = some (.bool q.f2) := (by rw [HO.out]; exact H10.out.cell (j := 4) rfl); have hy5 : w10.cell? ⟨gR, o + 5, none⟩ = some (.string q.f3) := (by rw [HO.out]; exact H10.out.cell (j := 5) rfl); have hy6 : w10.cell? ⟨gR, o + 6, none⟩ = some (.slice A6 q.f4.length c6) := (by rw [HO.out]; exact H10.out.cell (j := 6) rfl); have hy7 : w10.cell? ⟨gR, o + 7, none⟩ = some (.int .i64 q.f5) := (by rw [HO.out]; exact H10.out.cell (j := 7) rfl); have hy8 : w10.cell? ⟨gR, o + 8, none⟩ = some (.int .i64 q.f6) := (by rw [HO.out]; exact H10.out.cell (j := 8) rfl); have hg2 : w10.frozen? ⟨gR, o + 2, none⟩ = false := H10.out.frozen (o + 2); have hg3 : w10.frozen? ⟨gR, o + 3, none⟩ = false := H10.out.frozen (o + 3); have hg4 : w10.frozen? ⟨gR, o + 4, none⟩ = false := H10.out.frozen (o + 4); have hg5 : w10.frozen? ⟨gR, o + 5, none⟩ = false := H10.out.frozen (o + 5); have hg6 : w10.frozen? ⟨gR, o + 6, none⟩ = false := H10.out.frozen (o + 6); have hg7 : w10.frozen? ⟨gR, o + 7, none⟩ = false := H10.out.frozen (o + 7); have hg8 : w10.frozen? ⟨gR, o + 8, none⟩ = false := H10.out.frozen (o + 8)) | (go_at_call 123; clear hy2 hg2 hy3 hg3 hy4 hg4 hy5 hg5 hy6 hg6 hy7 hg7 hy8 hg8; obtain ⟨WD0, hWD0⟩ : ∃ W_ : World, W_ = w10.setCell ⟨gR, o + 4, none⟩ (.bool true) := ⟨_, rfl⟩; rw [← hWD0]; have HWD0 := Aside0.mk (show Hol k101 101 w0 w8 WD0 (fun _ => True) gR L.length cA L i (fun k => oki k ∨ True ∧ w9.heap.size ≤ k) [.int .i64 q.f0.f0.f0, .string q.f0.f0.f1, .int .i64 q.f0.f1, .int .i64 q.f1, .bool true, .string q.f3, .slice A6 q.f4.length c6, .int .i64 q.f5, .int .i64 q.f6] by rw [hWD0, HO.out]; exact H10.out.put 4 (.bool true) (by decide) rfl rfl); have RWD0 := Aside0.mk (show Kd.R k29 29 WD0 w0.heap.size (fun k => oki k ∨ True ∧ w9.heap.size ≤ k) (.slice A9 ds.length c9) ds by rw [hWD0]; exact H10.out.innerSet R10.out _ _); have hva_ := blk_far HV10.out (p := ⟨gR, o + 4, none⟩) HNE.out (.bool true); rw [← hWD0] at hva_; have HVWD0 := Aside0.mk hva_; clear hva_ hWD0 H10 R10 HV10; obtain ⟨WD1, hWD1⟩ : ∃ W_ : World, W_ = WD0.setCell ⟨gR, o + 5, none⟩ (.string val) := ⟨_, rfl⟩; rw [← hWD1]; have HWD1 := Aside0.mk (show Hol k101 101 w0 w8 WD1 (fun _ => True) gR L.length cA L i (fun k => oki k ∨ True ∧ w9.heap.size ≤ k) [.int .i64 q.f0.f0.f0, .string q.f0.f0.f1, .int .i64 q.f0.f1, .int .i64 q.f1, .bool true, .string val, .slice A6 q.f4.length c6, .int .i64 q.f5, .int .i64 q.f6] by rw [hWD1, HO.out]; exact HWD0.out.put 5 (.string val) (by decide) rfl rfl); have RWD1 := Aside0.mk (show Kd.R k29 29 WD1 w0.heap.size (fun k => oki k ∨ True ∧ w9.heap.size ≤ k) (.slice A9 ds.length c9) ds by rw [hWD1]; exact HWD0.out.innerSet RWD0.out _ _); have hva_ := blk_far HVWD0.out (p := ⟨gR, o + 5, none⟩) HNE.out (.string val); rw [← hWD1] at hva_; have HVWD1 := Aside0.mk hva_; clear hva_ hWD1 HWD0 RWD0 HVWD0; obtain ⟨WD2, hWD2⟩ : ∃ W_ : World, W_ = WD1.setCell ⟨gR, o + 6, none⟩ (.slice A9 ds.length c9) := ⟨_, rfl⟩; rw [← hWD2]; have HWD2 := Aside0.mk (show Hol k101 101 w0 w8 WD2 (fun _ => True) gR L.length cA L i (fun k => oki k ∨ True ∧ w9.heap.size ≤ k) [.int .i64 q.f0.f0.f0, .string q.f0.f0.f1, .int .i64 q.f0.f1, .int .i64 q.f1, .bool true, .string val, .slice A9 ds.length c9, .int .i64 q.f5, .int .i64 q.f6] by rw [hWD2, HO.out]; exact HWD1.out.put 6 (.slice A9 ds.length c9) (by decide) rfl rfl); have RWD2 := Aside0.mk (show Kd.R k29 29 WD2 w0.heap.size (fun k => oki k ∨ True ∧ w9.heap.size ≤ k) (.slice A9 ds.length c9) ds by rw [hWD2]; exact HWD1.out.innerSet RWD1.out _ _); have hva_ := blk_far HVWD1.out (p := ⟨gR, o + 6, none⟩) HNE.out (.slice A9 ds.length c9); rw [← hWD2] at hva_; have HVWD2 := Aside0.mk hva_; clear hva_ hWD2 HWD1 RWD1 HVWD1; obtain ⟨WD3, hWD3⟩ : ∃ W_ : World, W_ = WD2.setCell ⟨gR, o + 7, none⟩ (.int .i64 rev) := ⟨_, rfl⟩; rw [← hWD3]; have HWD3 := Aside0.mk (show Hol k101 101 w0 w8 WD3 (fun _ => True) gR L.length cA L i (fun k => oki k ∨ True ∧ w9.heap.size ≤ k) [.int .i64 q.f0.f0.f0, .string q.f0.f0.f1, .int .i64 q.f0.f1, .int .i64 q.f1, .bool true, .string val, .slice A9 ds.length c9, .int .i64 rev, .int .i64 q.f6] by rw [hWD3, HO.out]; exact HWD2.out.put 7 (.int .i64 rev) (by decide) rfl rfl); have RWD3 := Aside0.mk (show Kd.R k29 29 WD3 w0.heap.size (fun k => oki k ∨ True ∧ w9.heap.size ≤ k) (.slice A9 ds.length c9) ds by rw [hWD3]; exact HWD2.out.innerSet RWD2.out _ _); have hva_ := blk_far HVWD2.out (p := ⟨gR, o + 7, none⟩) HNE.out (.int .i64 rev); rw [← hWD3] at hva_; have HVWD3 := Aside0.mk hva_; clear hva_ hWD3 HWD2 RWD2 HVWD2; refine (impl_row_free.free gR o q.f0.f1 q.f1 _ (by rw [HO.out]; exact HWD3.out.cell (j := 2) rfl) (by rw [HO.out]; exact HWD3.out.cell (j := 3) rfl) (HWD3.out.frozen _) (HWD3.out.frozen _)).mono ?_; rintro e W10 ⟨rfl, hW10⟩; have HW10 := Aside0.mk hW10; clear hW10))
  go_ret
  obtain ⟨WB, hWB⟩ : ∃ W_ : World, W_ = WD3.setCell ⟨gR, o + 3, none⟩ (.int .i64 0) := ⟨_, rfl⟩
  have HBh : Hol k101 101 w0 w8 WB (fun _ => True) gR L.length cA L i (fun k => oki k ∨ True ∧ w9.heap.size ≤ k) [.int .i64 q.f0.f0.f0, .string q.f0.f0.f1, .int .i64 q.f0.f1, .int .i64 0, .bool true, .string val, .slice A9 ds.length c9, .int .i64 rev, .int .i64 q.f6] := by rw [hWB, HO.out]; exact HWD3.out.put 3 (.int .i64 0) (by decide) rfl rfl
  have RB : Kd.R k29 29 WB w0.heap.size (fun k => oki k ∨ True ∧ w9.heap.size ≤ k) (.slice A9 ds.length c9) ds := by rw [hWB]; exact HWD3.out.innerSet RWD3.out _ _
  have HC : Hol k101 101 w0 w8 W10 (fun _ => True) gR L.length cA L i (fun k => oki k ∨ True ∧ w9.heap.size ≤ k) [.int .i64 q.f0.f0.f0, .string q.f0.f0.f1, .int .i64 0, .int .i64 0, .bool true, .string val, .slice A9 ds.length c9, .int .i64 rev, .int .i64 q.f6] := by rw [HW10.out, ← hWB, HO.out]; exact HBh.put 2 (.int .i64 0) (by decide) rfl rfl
  have RC : Kd.R k29 29 W10 w0.heap.size (fun k => oki k ∨ True ∧ w9.heap.size ≤ k) (.slice A9 ds.length c9) ds := by rw [HW10.out, ← hWB]; exact HBh.innerSet RB _ _
  have hvC := blk_far (blk_far HVWD3.out (p := ⟨gR, o + 3, none⟩) HNE.out (.int .i64 0)) (p := ⟨gR, o + 2, none⟩) HNE.out (.int .i64 0)
  rw [← HW10.out] at hvC
  have hS := HC.back (k101_mkM W10 w0.heap.size (fun k => oki k ∨ True ∧ w9.heap.size ≤ k) (fnRow q rev val ds q.f6) RC) (fun _ h => h)
  have h := HE.out
  injection h with h1 h2
  subst h1 h2
  exact ⟨rfl, ⟨⟨_, hvC, hS⟩, LEg.out, HC.bel⟩⟩
def impl_row_slot.f (a0_0 : Int) (a0_1 : ByteArray) (a0_2 : Int) (a0_3 : Int) (a0_4 : Bool) (a0_5 : ByteArray) (l0_6 : List (S29)) (a0_7 : Int) (a0_8 : Int) : Option (Int × ByteArray × Bool × ByteArray × (List (S29)) × Int × Int × Int × Int) := (slices_Clone_impl_Key_impl_Key.f l0_6).bind fun t389 => (some (a0_0, a0_1, a0_4, a0_5, t389, a0_7, a0_8, a0_3, a0_2))
def impl_row_slot.T1 : Bool × List (List Nat × List Nat) := (true, [([], []), ([0], [0]), ([1], [1]), ([], []), ([3], [3]), ([], []), ([5], [5]), ([], []), ([7], [7]), ([8], [8]), ([], []), ([10], [10]), ([], []), ([12], [12]), ([], []), ([14], [14]), ([], []), ([16], [16]), ([17], [17]), ([2, 4, 6, 9, 11, 13, 15, 18], [2, 4, 6, 9, 11, 13, 15, 18]), ([19, 9, 0, 1, 2, 3, 4, 5, 6, 7, 8, 9, 10, 11, 12, 13, 14, 15, 16, 17, 18, 19], [19])])
def impl_row_slot.B1 : List Nat := [0, 1, 3, 0, 8, 0, 32, 0, 128, 384, 0, 1024, 0, 4096, 0, 16384, 0, 65536, 196608, 524287, 1048575]
theorem impl_row_slot.tab1 : rtab .any (opsOf Tryd.f60 1) = impl_row_slot.T1 := by kernel_rfl
theorem impl_row_slot.bits1 : waitsOk impl_row_slot.T1.2 impl_row_slot.B1 = true := by kernel_rfl
set_option maxHeartbeats 8000000 in
set_option maxRecDepth 100000 in
theorem impl_row_slot.calls (a0_0 : Int) (a0_1 : ByteArray) (a0_2 : Int) (a0_3 : Int) (a0_4 : Bool) (a0_5 : ByteArray) (A0_6 : Option Addr) (c0_6 : Nat) (l0_6 : List (S29)) (a0_7 : Int) (a0_8 : Int) (r1 : Int) (r2 : ByteArray) (r3 : Bool) (r4 : ByteArray) (r5 : List (S29)) (r6 : Int) (r7 : Int) (r8 : Int) (r9 : Int) (w : World) (hr0_6 : Kd.C k29 w A0_6 l0_6.length l0_6) (hc0_6 : l0_6.length ≤ c0_6) (h : impl_row_slot.f a0_0 a0_1 a0_2 a0_3 a0_4 a0_5 l0_6 a0_7 a0_8 = some (r1, r2, r3, r4, r5, r6, r7, r8, r9)) :
 Calls Tryd.prog 60 #[.agg #[.int .i64 a0_0, .string a0_1, .int .i64 a0_2, .int .i64 a0_3, .bool a0_4, .string a0_5, .slice A0_6 l0_6.length c0_6, .int .i64 a0_7, .int .i64 a0_8]] w fun e w' => ∃ v4_ : Value, e = .returned (.agg #[.int .i64 r1, .string r2, .bool r3, .string r4, v4_, .int .i64 r6, .int .i64 r7, .int .i64 r8, .int .i64 r9]) ∧ Kd.R k29 29 w' w.heap.size (fun _ => True) v4_ r5 ∧ Below w.heap.size w w' := by
 have hu101 := Tryd.underlying101
 have hu32 := Tryd.underlying32
 have hu29 := Tryd.underlying29
 have HR0_6 := Aside0.mk hr0_6
 have HC0_6 := Aside0.mk hc0_6
 clear hr0_6 hc0_6
 have HB := Aside0.mk (Below.refl w.heap.size w)
 have H : ((slices_Clone_impl_Key_impl_Key.f l0_6).bind fun t389 => (some (a0_0, a0_1, a0_4, a0_5, t389, a0_7, a0_8, a0_3, a0_2))) = some (r1, r2, r3, r4, r5, r6, r7, r8, r9) := h
 clear h
 replace H := Option.bind_eq_some_iff.mp H
 obtain ⟨t389, A20, H⟩ := H
 replace H : (some (a0_0, a0_1, a0_4, a0_5, t389, a0_7, a0_8, a0_3, a0_2)) = some (r1, r2, r3, r4, r5, r6, r7, r8, r9) := H
 have A2 := Aside0.mk A20
 clear A20
 simp only [Option.some.injEq, Prod.mk.injEq] at H
 obtain ⟨rfl, rfl, rfl, rfl, rfl, rfl, rfl, rfl, rfl⟩ := H
 go_enter Tryd.func60, Tryd.ntmps60
 try go_wp2_with (first | ((with_reducible refine gate_dst (N := 1) rfl ?_); refine box_event ?hg (N := 1) ?hd (cs := #[.int .i64 a0_0, .string a0_1, .int .i64 a0_2, .int .i64 a0_3, .bool a0_4, .string a0_5, .slice A0_6 l0_6.length c0_6, .int .i64 a0_7, .int .i64 a0_8]) (t := 101) ?hr ?_; (case hd => rfl); (case hg => rfl); (case hr => first | (go_simp; done) | (go_simp; rfl)); intro gb387 hg w3 hbox hb; have hb1_ := fromQ HB.out hb; have hb0_ := below_step hb1_ hb; have hW_ := below_step HB.out hb1_; have n1_ := Aside0.mk (hbox); have n2_ := szle hg hW_; have n3_ := szle hg hW_; replace HB := kH HB hb0_; have BK387 := n1_; have GW387 := n2_; have GE387 := n3_; clear hb1_ hb0_ hW_ n1_ n2_ n3_; clear hb hbox hg) | ((with_reducible refine gate_dst (N := 2) rfl ?_); refine box_event ?hg (N := 2) ?hd (cs := #[.int .i64 0, .string (⟨#[]⟩ : ByteArray), .bool false, .string (⟨#[]⟩ : ByteArray), .slice none 0 0, .int .i64 0, .int .i64 0, .int .i64 0, .int .i64 0]) (t := 32) ?hr ?_; (case hd => rfl); (case hg => rfl); (case hr => first | (go_simp; done) | (go_simp; rfl)); intro gb388 hg w4 hbox hb; have hb1_ := fromQ HB.out hb; have hb0_ := below_step hb1_ hb; have hW_ := below_step HB.out hb1_; have n2_ := Aside0.mk (hbox); have n3_ := szle hg hW_; have n4_ := szle hg hW_; have n5_ := nelt hg BK387 hb1_; have n6_ := negt hg BK387 hb1_; replace BK387 := kB BK387 hb0_; replace HB := kH HB hb0_; have BK388 := n2_; have GW388 := n3_; have GE388 := n4_; have NB387_388 := n5_; have NB388_387 := n6_; clear hb1_ hb0_ hW_ n2_ n3_ n4_ n5_ n6_; clear hb hbox hg))
 have n0_ := Aside0.mk (blk_drew BK387.out)
 have n1_ := Aside0.mk (blk_drew BK388.out)
 have n2_ := Aside0.mk (below_drew1 HB.out)
 clear BK387
 clear BK388
 clear HB
 have BK387 := n0_
 have BK388 := n1_
 have HB := n2_
 clear n0_ n1_ n2_
 refine start_ (n := 21) (S := fun w' => w'.cell? ⟨gb387, 0, none⟩ = some (.int .i64 a0_0) ∧ w'.cell? ⟨gb387, 1, none⟩ = some (.string a0_1) ∧ w'.cell? ⟨gb387, 2, none⟩ = some (.int .i64 a0_2) ∧ w'.cell? ⟨gb387, 3, none⟩ = some (.int .i64 a0_3) ∧ w'.cell? ⟨gb387, 4, none⟩ = some (.bool a0_4) ∧ w'.cell? ⟨gb387, 5, none⟩ = some (.string a0_5) ∧ w'.cell? ⟨gb387, 6, none⟩ = some (.slice A0_6 l0_6.length c0_6) ∧ w'.cell? ⟨gb387, 7, none⟩ = some (.int .i64 a0_7) ∧ w'.cell? ⟨gb387, 8, none⟩ = some (.int .i64 a0_8)) (ds := []) #[false, false, false, false, false, false, false, false, false, false, false, false, false, false, false, false, false, false, false, false, false] (by kernel_rfl) rfl rfl ⟨(blk_cell BK387.out 0).trans rfl, (blk_cell BK387.out 1).trans rfl, (blk_cell BK387.out 2).trans rfl, (blk_cell BK387.out 3).trans rfl, (blk_cell BK387.out 4).trans rfl, (blk_cell BK387.out 5).trans rfl, (blk_cell BK387.out 6).trans rfl, (blk_cell BK387.out 7).trans rfl, (blk_cell BK387.out 8).trans rfl⟩ (fun hHeld => ?_); refine with_tabW impl_row_slot.tab1 impl_row_slot.bits1 (fun HT_ HW_ => ?_)
 generalize w4.drew = w5 at BK387 BK388 HB hHeld ⊢
 refine pureY (i := 0) (N := some 3) (v := ?_) (a' := ?_) #[true, false, false, false, false, false, false, false, false, false, false, false, false, false, false, false, false, false, false, false, false] rfl rfl (any_of HT_.out (by kernel_rfl)) ⟨by rfl, ?_⟩ ?_ ?_
 rotate_left
 · intro w'
   go_simp
   with_reducible rfl
 rotate_left
 · simp only [Act.put, sA_, i64_w, i32_w]
   rfl
 refine pureY (i := 1) (N := some 4) (v := ?_) (a' := ?_) #[true, true, false, false, false, false, false, false, false, false, false, false, false, false, false, false, false, false, false, false, false] rfl rfl (any_of HT_.out (by kernel_rfl)) ⟨by rfl, ?_⟩ ?_ ?_
 rotate_left
 · intro w'
   go_simp
   with_reducible rfl
 rotate_left
 · simp only [Act.put, sA_, i64_w, i32_w]
   rfl
 refine pureY (i := 3) (N := some 6) (v := ?_) (a' := ?_) #[true, true, false, true, false, false, false, false, false, false, false, false, false, false, false, false, false, false, false, false, false] rfl rfl (any_of HT_.out (by kernel_rfl)) ⟨by rfl, ?_⟩ ?_ ?_
 rotate_left
 · intro w'
   go_simp
   with_reducible rfl
 rotate_left
 · simp only [Act.put, sA_, i64_w, i32_w]
   rfl
 refine pureY (i := 5) (N := some 8) (v := ?_) (a' := ?_) #[true, true, false, true, false, true, false, false, false, false, false, false, false, false, false, false, false, false, false, false, false] rfl rfl (any_of HT_.out (by kernel_rfl)) ⟨by rfl, ?_⟩ ?_ ?_
 rotate_left
 · intro w'
   go_simp
   with_reducible rfl
 rotate_left
 · simp only [Act.put, sA_, i64_w, i32_w]
   rfl
 refine pureY (i := 7) (N := some 10) (v := ?_) (a' := ?_) #[true, true, false, true, false, true, false, true, false, false, false, false, false, false, false, false, false, false, false, false, false] rfl rfl (any_of HT_.out (by kernel_rfl)) ⟨by rfl, ?_⟩ ?_ ?_
 rotate_left
 · intro w'
   go_simp
   with_reducible rfl
 rotate_left
 · simp only [Act.put, sA_, i64_w, i32_w]
   rfl
 refine pureY (i := 10) (N := some 13) (v := ?_) (a' := ?_) #[true, true, false, true, false, true, false, true, false, false, true, false, false, false, false, false, false, false, false, false, false] rfl rfl (any_of HT_.out (by kernel_rfl)) ⟨by rfl, ?_⟩ ?_ ?_
 rotate_left
 · intro w'
   go_simp
   with_reducible rfl
 rotate_left
 · simp only [Act.put, sA_, i64_w, i32_w]
   rfl
 refine pureY (i := 12) (N := some 15) (v := ?_) (a' := ?_) #[true, true, false, true, false, true, false, true, false, false, true, false, true, false, false, false, false, false, false, false, false] rfl rfl (any_of HT_.out (by kernel_rfl)) ⟨by rfl, ?_⟩ ?_ ?_
 rotate_left
 · intro w'
   go_simp
   with_reducible rfl
 rotate_left
 · simp only [Act.put, sA_, i64_w, i32_w]
   rfl
 refine pureY (i := 14) (N := some 17) (v := ?_) (a' := ?_) #[true, true, false, true, false, true, false, true, false, false, true, false, true, false, true, false, false, false, false, false, false] rfl rfl (any_of HT_.out (by kernel_rfl)) ⟨by rfl, ?_⟩ ?_ ?_
 rotate_left
 · intro w'
   go_simp
   with_reducible rfl
 rotate_left
 · simp only [Act.put, sA_, i64_w, i32_w]
   rfl
 refine pureY (i := 16) (N := some 19) (v := ?_) (a' := ?_) #[true, true, false, true, false, true, false, true, false, false, true, false, true, false, true, false, true, false, false, false, false] rfl rfl (any_of HT_.out (by kernel_rfl)) ⟨by rfl, ?_⟩ ?_ ?_
 rotate_left
 · intro w'
   go_simp
   with_reducible rfl
 rotate_left
 · simp only [Act.put, sA_, i64_w, i32_w]
   rfl
 refine pureY (i := 17) (N := some 20) (v := ?_) (a' := ?_) #[true, true, false, true, false, true, false, true, false, false, true, false, true, false, true, false, true, true, false, false, false] rfl rfl (any_of HT_.out (by kernel_rfl)) ⟨by rfl, ?_⟩ ?_ ?_
 rotate_left
 · intro w'
   go_simp
   with_reducible rfl
 rotate_left
 · simp only [Act.put, sA_, i64_w, i32_w]
   rfl
 refine takeY (i := 2) (N := some 5) (v := ?_) (a' := ?_) #[true, true, true, true, false, true, false, true, false, false, true, false, true, false, true, false, true, true, false, false, false] rfl rfl (take_ofW HT_.out HW_.out (by kernel_rfl)) ⟨by rfl, ?_⟩ hHeld ?_ ?_
 rotate_left
 · rintro w' ⟨s0, s1, s2, s3, s4, s5, s6, s7, s8⟩
   go_simp
   with_reducible rfl
 rotate_left
 · simp only [Act.put, sA_, i64_w, i32_w]
   rfl
 refine takeY (i := 4) (N := some 7) (v := ?_) (a' := ?_) #[true, true, true, true, true, true, false, true, false, false, true, false, true, false, true, false, true, true, false, false, false] rfl rfl (take_ofW HT_.out HW_.out (by kernel_rfl)) ⟨by rfl, ?_⟩ hHeld ?_ ?_
 rotate_left
 · rintro w' ⟨s0, s1, s2, s3, s4, s5, s6, s7, s8⟩
   go_simp
   with_reducible rfl
 rotate_left
 · simp only [Act.put, sA_, i64_w, i32_w]
   rfl
 refine takeY (i := 6) (N := some 9) (v := ?_) (a' := ?_) #[true, true, true, true, true, true, true, true, false, false, true, false, true, false, true, false, true, true, false, false, false] rfl rfl (take_ofW HT_.out HW_.out (by kernel_rfl)) ⟨by rfl, ?_⟩ hHeld ?_ ?_
 rotate_left
 · rintro w' ⟨s0, s1, s2, s3, s4, s5, s6, s7, s8⟩
   go_simp
   with_reducible rfl
 rotate_left
 · simp only [Act.put, sA_, i64_w, i32_w]
   rfl
 refine takeY (i := 8) (N := some 11) (v := ?_) (a' := ?_) #[true, true, true, true, true, true, true, true, true, false, true, false, true, false, true, false, true, true, false, false, false] rfl rfl (take_ofW HT_.out HW_.out (by kernel_rfl)) ⟨by rfl, ?_⟩ hHeld ?_ ?_
 rotate_left
 · rintro w' ⟨s0, s1, s2, s3, s4, s5, s6, s7, s8⟩
   go_simp
   with_reducible rfl
 rotate_left
 · simp only [Act.put, sA_, i64_w, i32_w]
   rfl
 refine takeY (i := 11) (N := some 14) (v := ?_) (a' := ?_) #[true, true, true, true, true, true, true, true, true, false, true, true, true, false, true, false, true, true, false, false, false] rfl rfl (take_ofW HT_.out HW_.out (by kernel_rfl)) ⟨by rfl, ?_⟩ hHeld ?_ ?_
 rotate_left
 · rintro w' ⟨s0, s1, s2, s3, s4, s5, s6, s7, s8⟩
   go_simp
   with_reducible rfl
 rotate_left
 · simp only [Act.put, sA_, i64_w, i32_w]
   rfl
 refine takeY (i := 13) (N := some 16) (v := ?_) (a' := ?_) #[true, true, true, true, true, true, true, true, true, false, true, true, true, true, true, false, true, true, false, false, false] rfl rfl (take_ofW HT_.out HW_.out (by kernel_rfl)) ⟨by rfl, ?_⟩ hHeld ?_ ?_
 rotate_left
 · rintro w' ⟨s0, s1, s2, s3, s4, s5, s6, s7, s8⟩
   go_simp
   with_reducible rfl
 rotate_left
 · simp only [Act.put, sA_, i64_w, i32_w]
   rfl
 refine takeY (i := 15) (N := some 18) (v := ?_) (a' := ?_) #[true, true, true, true, true, true, true, true, true, false, true, true, true, true, true, true, true, true, false, false, false] rfl rfl (take_ofW HT_.out HW_.out (by kernel_rfl)) ⟨by rfl, ?_⟩ hHeld ?_ ?_
 rotate_left
 · rintro w' ⟨s0, s1, s2, s3, s4, s5, s6, s7, s8⟩
   go_simp
   with_reducible rfl
 rotate_left
 · simp only [Act.put, sA_, i64_w, i32_w]
   rfl
 refine takeY (i := 18) (N := some 21) (v := ?_) (a' := ?_) #[true, true, true, true, true, true, true, true, true, false, true, true, true, true, true, true, true, true, true, false, false] rfl rfl (take_ofW HT_.out HW_.out (by kernel_rfl)) ⟨by rfl, ?_⟩ hHeld ?_ ?_
 rotate_left
 · rintro w' ⟨s0, s1, s2, s3, s4, s5, s6, s7, s8⟩
   go_simp
   with_reducible rfl
 rotate_left
 · simp only [Act.put, sA_, i64_w, i32_w]
   rfl
 refine one_ (i := 9) (N := some 12) #[true, true, true, true, true, true, true, true, true, true, true, true, true, true, true, true, true, true, true, false, false] rfl rfl (one_of HT_.out (by kernel_rfl)) (by decide) (fun K hK => ?_)
 refine goes_ Tryd.func118 (by kernel_rfl) rfl #[.slice A0_6 l0_6.length c0_6] (by rfl) rfl rfl (by (try simp only [List.map_toArray, List.map_cons, List.map_nil]); first | done | rfl | (simp only [List.length_drop, List.length_take]; rfl)) ?_
 with_reducible refine (slices_Clone_impl_Key_impl_Key.calls _ _ l0_6 t389 _ ?side1 ?side2 A2.out).mono ?_
 (case side1 => repeat (first | exact (Kd.C_below HR0_6.out HB.out) | (with_reducible refine Kd.C_alloc ?_ _) | (with_reducible refine Kd.C_drewN ?_ _) | (with_reducible refine Kd.C_drew ?_)))
 (case side2 => exact HC0_6.out)
 rintro e w6 ⟨v390, rfl, ho0, hb⟩
 refine ⟨_, rfl, ?_⟩
 have hb1_ := fromQ HB.out hb
 have hb0_ := below_step hb1_ hb
 have hW_ := below_step HB.out hb1_
 have n0_ := Aside0.mk (Kd.R_lower ho0 (below_size hW_))
 replace BK387 := kB BK387 hb0_
 replace BK388 := kB BK388 hb0_
 replace HB := kH HB hb0_
 have HO391 := n0_
 clear hb1_ hb0_ hW_ n0_
 (try clear hb)
 (try clear hb2)
 (try clear hk)
 (try clear hi)
 (try clear ho0)
 obtain ⟨Ao7, co7, eo7⟩ := Kd.R_slice HO391.out
 (first | subst eo7 | (injection eo7 with f1_ f2_ f3_; have f4_ := f1_.symm; have f5_ := f3_.symm; clear f1_ f2_ f3_; subst f4_; subst f5_))
 refine hK.out _ _ ⟨(blk_cell BK387.out 0).trans rfl, (blk_cell BK387.out 1).trans rfl, (blk_cell BK387.out 2).trans rfl, (blk_cell BK387.out 3).trans rfl, (blk_cell BK387.out 4).trans rfl, (blk_cell BK387.out 5).trans rfl, (blk_cell BK387.out 6).trans rfl, (blk_cell BK387.out 7).trans rfl, (blk_cell BK387.out 8).trans rfl⟩ (fun hHeld => ?_)
 clear hK K
 refine norm_ (a' := ?_) ?_ ?_
 rotate_left
 · show Act.put _ (some 12) _ = _
   simp only [Act.put, sA_, i64_w, i32_w]
   rfl
 refine pureY (i := 19) (N := some 22) (v := ?_) (a' := ?_) #[true, true, true, true, true, true, true, true, true, true, true, true, true, true, true, true, true, true, true, true, false] rfl rfl (any_of HT_.out (by kernel_rfl)) ⟨by rfl, ?_⟩ ?_ ?_
 rotate_left
 · intro w'
   go_simp
   with_reducible rfl
 rotate_left
 · simp only [Act.put, sA_, i64_w, i32_w]
   rfl
 refine one_ (i := 20) (N := none) #[true, true, true, true, true, true, true, true, true, true, true, true, true, true, true, true, true, true, true, true, true] rfl rfl (one_of HT_.out (by kernel_rfl)) (by decide) (fun K hK => ?_)
 have hs8 : w6.cell? ⟨gb388, 0, none⟩ = some (.int .i64 0) := (blk_cell BK388.out 0).trans rfl
 have hfs8 := blk_frozen BK388.out 0
 have hns8_0 := NB387_388.out
 have hms8_0 := NB388_387.out
 have hs9 : w6.cell? ⟨gb388, 1, none⟩ = some (.string (⟨#[]⟩ : ByteArray)) := (blk_cell BK388.out 1).trans rfl
 have hfs9 := blk_frozen BK388.out 1
 have hs10 : w6.cell? ⟨gb388, 2, none⟩ = some (.bool false) := (blk_cell BK388.out 2).trans rfl
 have hfs10 := blk_frozen BK388.out 2
 have hs11 : w6.cell? ⟨gb388, 3, none⟩ = some (.string (⟨#[]⟩ : ByteArray)) := (blk_cell BK388.out 3).trans rfl
 have hfs11 := blk_frozen BK388.out 3
 have hs12 : w6.cell? ⟨gb388, 4, none⟩ = some (.slice none 0 0) := (blk_cell BK388.out 4).trans rfl
 have hfs12 := blk_frozen BK388.out 4
 have hs13 : w6.cell? ⟨gb388, 5, none⟩ = some (.int .i64 0) := (blk_cell BK388.out 5).trans rfl
 have hfs13 := blk_frozen BK388.out 5
 have hs14 : w6.cell? ⟨gb388, 6, none⟩ = some (.int .i64 0) := (blk_cell BK388.out 6).trans rfl
 have hfs14 := blk_frozen BK388.out 6
 have hs15 : w6.cell? ⟨gb388, 7, none⟩ = some (.int .i64 0) := (blk_cell BK388.out 7).trans rfl
 have hfs15 := blk_frozen BK388.out 7
 have hs16 : w6.cell? ⟨gb388, 8, none⟩ = some (.int .i64 0) := (blk_cell BK388.out 8).trans rfl
 have hfs16 := blk_frozen BK388.out 8
 refine skip_ (w1 := ?_) (by rfl) rfl ?_ ?_
 rotate_left
 · go_simp
   rfl
 refine hK.out _ _ ⟨(cell_far9 NB387_388.out).trans hHeld.1, (cell_far9 NB387_388.out).trans hHeld.2.1, (cell_far9 NB387_388.out).trans hHeld.2.2.1, (cell_far9 NB387_388.out).trans hHeld.2.2.2.1, (cell_far9 NB387_388.out).trans hHeld.2.2.2.2.1, (cell_far9 NB387_388.out).trans hHeld.2.2.2.2.2.1, (cell_far9 NB387_388.out).trans hHeld.2.2.2.2.2.2.1, (cell_far9 NB387_388.out).trans hHeld.2.2.2.2.2.2.2.1, (cell_far9 NB387_388.out).trans hHeld.2.2.2.2.2.2.2.2⟩ (fun hHeld => ?_)
 clear hK K
 refine done_ (done_of HT_.out (by kernel_rfl)) ?_
 try go_wp2
 refine bodyPost_ret (results_cell_row rfl _ _ gb388 32 #[.int .i64 a0_0, .string a0_1, .bool a0_4, .string a0_5, .slice Ao7 t389.length co7, .int .i64 a0_7, .int .i64 a0_8, .int .i64 a0_3, .int .i64 a0_2] (0, 0) _ rfl (by (with_reducible repeat (first | refine blk_drewN ?_ _ | refine blk_drew ?_ | refine blk_alloc ?_ _)); apply blk_stores9; (with_reducible repeat (first | refine blk_drewN ?_ _ | refine blk_drew ?_ | refine blk_alloc ?_ _)); exact BK388.out) Tryd.underlying32 rfl (by kernel_rfl)) rfl ?_
 exact ⟨_, by first | rfl | (simp [errW_none, errW_some] <;> rfl) | (simp [*, errW_none, errW_some] <;> rfl), by (with_reducible repeat (first | apply Kd.R_alloc | apply Kd.R_drewN | apply Kd.R_drew)); exact Kd.R_mono (R_far9 (g := gb388) (Kd.R_types HO391.out BK388.out (by decide)) (fun _ hk => hk.2)) (fun _ hk => trivial), by repeat (first | (with_reducible first | exact HB.out | apply below_alloc | apply pw_below_drewN | apply below_drew1 | refine below_set ?_ GE387.out | refine below_set ?_ GE388.out) | exact HB.out)⟩
end Go.Proofs.YtnbohlcibgfjaaaDoor.Gp
end
