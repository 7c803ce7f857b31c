/- A part of the proof of RowFnExactRelease: each text's theorems that it needs, packed by shake.py, a program of this work; Lean checks them. -/
import Derived.Test.YtnbohlcibgfjaaaDoorRel3
import Derived.Test.YtnbohlcibgfjaaaDoorRel9
section
namespace Go.Proofs.YtnbohlcibgfjaaaDoor.Gp
open Go.RowKit Go.Proofs.YtnbohlcibgfjaaaDoorW.PrintWords Go.Proofs.YtnbohlcibgfjaaaDoorW.PrintLast Go.Proofs.YtnbohlcibgfjaaaDoorW.PrintMore
set_option linter.unusedVariables false
set_option linter.unusedSimpArgs false
def rlS (wk : Int) (s : S32) : S32 := if s.f6 = wrap64 (wk + 1) then ⟨s.f0, s.f1, s.f2, s.f3, s.f4, s.f5, 0, 0⟩ else s
def rlK (s : S32) : Bool := !(!s.f1 && (s.f6 == 0))
def cpS (c : Int × ByteArray × Bool × ByteArray × List S29 × Int × Int × Int × Int) : S32 := ⟨⟨c.1, c.2.1⟩, c.2.2.1, c.2.2.2.1, c.2.2.2.2.1, c.2.2.2.2.2.1, c.2.2.2.2.2.2.1, c.2.2.2.2.2.2.2.1, c.2.2.2.2.2.2.2.2⟩
def spec_Release.l (k : Nat) (wk : Int) : List S32 → List S32 → Option (List S32)
 | [], out => some out
 | s :: l, out => (spec_l4CopySlot.f k s.f0.f0 s.f0.f1 s.f1 s.f2 s.f3 s.f4 s.f5 s.f6 s.f7).bind fun c => spec_Release.l k wk l (if rlK (rlS wk (cpS c)) = true then out ++ [rlS wk (cpS c)] else out)
theorem spec_Release.l_cons (k : Nat) (wk : Int) (s : S32) (l out : List S32) : spec_Release.l k wk (s :: l) out = (spec_l4CopySlot.f k s.f0.f0 s.f0.f1 s.f1 s.f2 s.f3 s.f4 s.f5 s.f6 s.f7).bind fun c => spec_Release.l k wk l (if rlK (rlS wk (cpS c)) = true then out ++ [rlS wk (cpS c)] else out) := rfl
def spec_Release.f (k : Nat) (l0 : List S32) (wk : Int) : Option (List S32) := if l0.length ≤ 1048576 then (spec_ValidTable.f k l0).bind fun t => (if t = true then (spec_l4WorkerOk.f wk).bind fun u => (if u = true then spec_Release.l k wk l0 [] else some []) else some []) else none
theorem wrapM (i : Nat) (h : i < 9223372036854775807) : wrap64 ((i : Int) + 1) = ((i + 1 : Nat) : Int) := by unfold wrap64; omega
theorem drop_sl (l : List S32) (i : Nat) (hi : i < l.length) : l.drop i = rd_T32 l i :: l.drop (i + 1) := by
 rw [List.drop_eq_getElem_cons hi]
 unfold rd_T32
 rw [Int.toNat_natCast, List.getD_eq_getElem?_getD, List.getElem?_eq_getElem hi]
 rfl
theorem spec_Release.bn {w : World} {o : Obj} {n : Nat} (h : w.heap.size = n) : (w.alloc o).heap[n]? = some o := h ▸ blk_new w o
structure spec_Release.Bs (w0 W : World) (A0 : Option Addr) (n0 c0 : Nat) (u : Value) (out : List S32) : Prop where
 h0 : W.heap[w0.heap.size]? = some (.cells #[.slice A0 n0 c0] 36 (0, 0))
 h1 : W.heap[w0.heap.size + 1]? = some (.cells #[.slice none 0 0] 36 (0, 0))
 S : Kd.S k32 32 W w0.heap.size (fun _ => True) u out
 bel : Below w0.heap.size w0 W
theorem spec_Release.Bs.keep {w0 W W1 : World} {A0 : Option Addr} {n0 c0 : Nat} {u : Value} {out : List S32} (h : spec_Release.Bs w0 W A0 n0 c0 u out) (b : Below W.heap.size W W1) : spec_Release.Bs w0 W1 A0 n0 c0 u out := ⟨blk_below h.h0 b, blk_below h.h1 b, Kd.S_below h.S b, below_step h.bel b⟩
theorem spec_Release.Bs.init (w : World) (A0 : Option Addr) (n0 c0 : Nat) : spec_Release.Bs w ((w.alloc (.cells #[.slice A0 n0 c0] 36)).alloc (.cells #[.slice none 0 0] 36)) A0 n0 c0 (.slice none 0 0) [] := ⟨blk_alloc (blk_new w _) _, spec_Release.bn (by simp), Kd.S_nil _ _ _ _ _, by repeat (first | exact Below.refl _ _ | apply below_alloc)⟩
theorem spec_Release.Bs.own {w0 W : World} {A0 : Option Addr} {n0 c0 : Nat} {u u' : Value} {out out' : List S32} (h : spec_Release.Bs w0 W A0 n0 c0 u out) (hS : Kd.S k32 32 W w0.heap.size (fun _ => True) u' out') : spec_Release.Bs w0 W A0 n0 c0 u' out' := ⟨h.h0, h.h1, hS, h.bel⟩
theorem spec_Release.Bs.grown {w0 W W1 : World} {A0 : Option Addr} {n0 c0 : Nat} {u u' : Value} {out out' : List S32} (h : spec_Release.Bs w0 W A0 n0 c0 u out) (hg : W.grownBy W1 u.ownBlock) (hb : Below w0.heap.size w0 W1) (hS : Kd.S k32 32 W1 w0.heap.size (fun _ => True) u' out') : spec_Release.Bs w0 W1 A0 n0 c0 u' out' :=
 ⟨blk_grown h.h0 hg (Kd.S_ne h.S h.h0 (by decide)), blk_grown h.h1 hg (Kd.S_ne h.S h.h1 (by decide)), hS, hb⟩
set_option maxHeartbeats 16000000 in
set_option maxRecDepth 100000 in
theorem spec_Release.calls (k : Nat) (A0_0 : Option Addr) (c0_0 : Nat) (l0_0 : List S32) (a1 : Int) (r : List S32) (w : World) (hr0_0 : Kd.C k32 w A0_0 l0_0.length l0_0) (hc0_0 : l0_0.length ≤ c0_0) (h : spec_Release.f k l0_0 a1 = some r) :
 Calls Tryd.prog 29 #[.agg #[.slice A0_0 l0_0.length c0_0], .int .i64 a1] w fun e w' => ∃ v0_ : Value, e = .returned (.agg #[v0_]) ∧ Kd.S k32 32 w' w.heap.size (fun _ => True) v0_ r ∧ Below w.heap.size w w' := by
 have hu1 := Tryd.underlying32
 have hu2 := Tryd.underlying29
 have hu3 := Tryd.underlying36
 have hu4 := Tryd.underlying34
 unfold spec_Release.f at h
 by_cases hn : l0_0.length ≤ 1048576
 case neg => rw [if_neg hn] at h; cases h
 rw [if_pos hn] at h
 obtain ⟨t, ht, h⟩ := Option.bind_eq_some_iff.mp h
 have HR0 := Aside0.mk hr0_0
 have HC0 := Aside0.mk hc0_0
 have HN := Aside0.mk hn
 have H1 := Aside0.mk ht
 have BX0 := Aside0.mk (spec_Release.Bs.init w A0_0 l0_0.length c0_0)
 clear hr0_0 hc0_0 hn ht
 cases t with
 | false =>
  rw [if_neg (by decide)] at h
  obtain rfl := Option.some.inj h
  clear h
  go_enter Tryd.func29, Tryd.ntmps29
  go_wp2_with (first | ((with_reducible refine gate_dst (N := 8) rfl ?_); refine Kd.S_lit k32 _ 32 ?hg (N := 8) ?hd (xs := ([] : List (S32))) (inner := []) (ok := fun _ => True) (okp := fun _ => True) ?hr ?hp (fun _ hk => hk) trivial (Below.refl _ _) (Nat.le_refl _) (by simp) ?_; (case hd => rfl); (case hg => rfl); (case hr => first | (go_simp; done) | (go_simp; rfl)); (case hp => exact (Reps.none _ _)); intro u6 w6 ho hb hg_ hnew_; clear hg_ hnew_; obtain ⟨A6, c6, rfl⟩ := Kd.S_slice ho; have BX6 := Aside0.mk ((BX0.out.keep hb).own (Kd.S_lower (by simpa using ho) (below_size BX0.out.bel))); have hq6 : w6.cell? ⟨w.heap.size, 0, none⟩ = some (.slice A0_0 l0_0.length c0_0) := (blk_cell BX6.out.h0 0).trans rfl; clear ho hb) | (go_at_call 43; refine (spec_ValidTable.calls k A0_0 c0_0 l0_0 _ _ (Kd.C_below HR0.out BX6.out.bel) HC0.out H1.out).mono ?_; rintro e w7 ⟨rfl, hb⟩; have BX7 := Aside0.mk (BX6.out.keep hb); clear hb hq6; have hq0 : w7.cell? ⟨w.heap.size, 0, none⟩ = some (.slice A0_0 l0_0.length c0_0) := (blk_cell BX7.out.h0 0).trans rfl; have hq1 : w7.cell? ⟨w.heap.size + 1, 0, none⟩ = some (.slice none 0 0) := (blk_cell BX7.out.h1 0).trans rfl; have hqf := blk_frozen BX7.out.h1 0))
  refine bodyPost_ret (results_cell_row rfl _ _ (w.heap.size + 1) 36 #[.slice A6 0 c6] (0, 0) _ rfl (blk_put BX7.out.h1 0 _ rfl) Tryd.underlying36 rfl (by kernel_rfl)) rfl ?_
  exact ⟨.slice A6 0 c6, rfl, Kd.S_set BX7.out.S BX7.out.h1 (by decide) 0 _, below_set BX7.out.bel (by show w.heap.size ≤ w.heap.size + 1; omega)⟩
 | true =>
  rw [if_pos rfl] at h
  obtain ⟨u, hu, h⟩ := Option.bind_eq_some_iff.mp h
  have H2 := Aside0.mk hu
  clear hu
  cases u with
  | false =>
   rw [if_neg (by decide)] at h
   obtain rfl := Option.some.inj h
   clear h
   go_enter Tryd.func29, Tryd.ntmps29
   go_wp2_with (first | ((with_reducible refine gate_dst (N := 8) rfl ?_); refine Kd.S_lit k32 _ 32 ?hg (N := 8) ?hd (xs := ([] : List (S32))) (inner := []) (ok := fun _ => True) (okp := fun _ => True) ?hr ?hp (fun _ hk => hk) trivial (Below.refl _ _) (Nat.le_refl _) (by simp) ?_; (case hd => rfl); (case hg => rfl); (case hr => first | (go_simp; done) | (go_simp; rfl)); (case hp => exact (Reps.none _ _)); intro u6 w6 ho hb hg_ hnew_; clear hg_ hnew_; obtain ⟨A6, c6, rfl⟩ := Kd.S_slice ho; have BX6 := Aside0.mk ((BX0.out.keep hb).own (Kd.S_lower (by simpa using ho) (below_size BX0.out.bel))); have hq6 : w6.cell? ⟨w.heap.size, 0, none⟩ = some (.slice A0_0 l0_0.length c0_0) := (blk_cell BX6.out.h0 0).trans rfl; clear ho hb) | (go_at_call 43; refine (spec_ValidTable.calls k A0_0 c0_0 l0_0 _ _ (Kd.C_below HR0.out BX6.out.bel) HC0.out H1.out).mono ?_; rintro e w7 ⟨rfl, hb⟩; have BX7 := Aside0.mk (BX6.out.keep hb); clear hb hq6; have hq0 : w7.cell? ⟨w.heap.size, 0, none⟩ = some (.slice A0_0 l0_0.length c0_0) := (blk_cell BX7.out.h0 0).trans rfl; have hq1 : w7.cell? ⟨w.heap.size + 1, 0, none⟩ = some (.slice none 0 0) := (blk_cell BX7.out.h1 0).trans rfl; have hqf := blk_frozen BX7.out.h1 0) | (go_at_call 67; refine (spec_l4WorkerOk.calls a1 _ _ H2.out).mono ?_; rintro e w8 ⟨rfl, hd⟩; have hb : Below w7.heap.size w7 w8 := (by obtain ⟨nd, rfl⟩ := hd; exact pw_below_drewN (Below.refl _ _) nd); have BX8 := Aside0.mk (BX7.out.keep hb); clear hb hd hq0 hq1 hqf; have hq0 : w8.cell? ⟨w.heap.size, 0, none⟩ = some (.slice A0_0 l0_0.length c0_0) := (blk_cell BX8.out.h0 0).trans rfl; have hq1 : w8.cell? ⟨w.heap.size + 1, 0, none⟩ = some (.slice none 0 0) := (blk_cell BX8.out.h1 0).trans rfl; have hqf := blk_frozen BX8.out.h1 0))
   refine bodyPost_ret (results_cell_row rfl _ _ (w.heap.size + 1) 36 #[.slice A6 0 c6] (0, 0) _ rfl (blk_put BX8.out.h1 0 _ rfl) Tryd.underlying36 rfl (by kernel_rfl)) rfl ?_
   exact ⟨.slice A6 0 c6, rfl, Kd.S_set BX8.out.S BX8.out.h1 (by decide) 0 _, below_set BX8.out.bel (by show w.heap.size ≤ w.heap.size + 1; omega)⟩
  | true =>
   rw [if_pos rfl] at h
   have H := Aside0.mk h
   clear h
   go_enter Tryd.func29, Tryd.ntmps29
   go_wp2_with (first | ((with_reducible refine gate_dst (N := 8) rfl ?_); refine Kd.S_lit k32 _ 32 ?hg (N := 8) ?hd (xs := ([] : List (S32))) (inner := []) (ok := fun _ => True) (okp := fun _ => True) ?hr ?hp (fun _ hk => hk) trivial (Below.refl _ _) (Nat.le_refl _) (by simp) ?_; (case hd => rfl); (case hg => rfl); (case hr => first | (go_simp; done) | (go_simp; rfl)); (case hp => exact (Reps.none _ _)); intro u6 w6 ho hb hg_ hnew_; clear hg_ hnew_; obtain ⟨A6, c6, rfl⟩ := Kd.S_slice ho; have BX6 := Aside0.mk ((BX0.out.keep hb).own (Kd.S_lower (by simpa using ho) (below_size BX0.out.bel))); have hq6 : w6.cell? ⟨w.heap.size, 0, none⟩ = some (.slice A0_0 l0_0.length c0_0) := (blk_cell BX6.out.h0 0).trans rfl; clear ho hb) | (go_at_call 43; refine (spec_ValidTable.calls k A0_0 c0_0 l0_0 _ _ (Kd.C_below HR0.out BX6.out.bel) HC0.out H1.out).mono ?_; rintro e w7 ⟨rfl, hb⟩; have BX7 := Aside0.mk (BX6.out.keep hb); clear hb hq6; have hq0 : w7.cell? ⟨w.heap.size, 0, none⟩ = some (.slice A0_0 l0_0.length c0_0) := (blk_cell BX7.out.h0 0).trans rfl; have hq1 : w7.cell? ⟨w.heap.size + 1, 0, none⟩ = some (.slice none 0 0) := (blk_cell BX7.out.h1 0).trans rfl; have hqf := blk_frozen BX7.out.h1 0) | (go_at_call 67; refine (spec_l4WorkerOk.calls a1 _ _ H2.out).mono ?_; rintro e w8 ⟨rfl, hd⟩; have hb : Below w7.heap.size w7 w8 := (by obtain ⟨nd, rfl⟩ := hd; exact pw_below_drewN (Below.refl _ _) nd); have BX8 := Aside0.mk (BX7.out.keep hb); clear hb hd hq0 hq1 hqf; have hq0 : w8.cell? ⟨w.heap.size, 0, none⟩ = some (.slice A0_0 l0_0.length c0_0) := (blk_cell BX8.out.h0 0).trans rfl; have hq1 : w8.cell? ⟨w.heap.size + 1, 0, none⟩ = some (.slice none 0 0) := (blk_cell BX8.out.h1 0).trans rfl; have hqf := blk_frozen BX8.out.h1 0))
   go_loopw [5, 6] (fun v5 v6 wr => ∃ (i : Nat) (out : List S32), i ≤ l0_0.length ∧ v6 = .int .i64 i ∧ Aside0 (spec_Release.l k a1 (l0_0.drop i) out = some r) ∧ Aside0 (out.length ≤ i) ∧ Aside0 (spec_Release.Bs w wr A0_0 l0_0.length c0_0 v5 out)) (fun _ v6 _ => l0_0.length - (intOf v6).toNat)
   case atStart => exact ⟨0, [], Nat.zero_le _, rfl, ⟨by rw [List.drop_zero]; exact H.out⟩, ⟨Nat.zero_le _⟩, BX8⟩
   case round =>
    clear H BX8 hq0 hq1 hqf
    obtain ⟨i, out, hi, rfl, HL, HO, BX⟩ := hrel
    have hq0 : wr.cell? ⟨w.heap.size, 0, none⟩ = some (.slice A0_0 l0_0.length c0_0) := (blk_cell BX.out.h0 0).trans rfl
    by_cases hlt : i < l0_0.length
    ·
     have ql : decide (i < l0_0.length) = true := decide_eq_true hlt
     have p0 : 0 ≤ (i : Int) := by omega
     have q0 : (i : Int) < (l0_0.length : Int) := by omega
     obtain ⟨ad, A4, c4, e4, hx0, hx1, hx2, hx3, hx4, hx5, hx6, hx7, hx8, hl4, hi4⟩ := at_T32 HR0.out i p0 q0
     cases e4
     replace hx0 := bcl (Aside0.mk BX.out.bel) hx0
     replace hx1 := bcl (Aside0.mk BX.out.bel) hx1
     replace hx2 := bcl (Aside0.mk BX.out.bel) hx2
     replace hx3 := bcl (Aside0.mk BX.out.bel) hx3
     replace hx4 := bcl (Aside0.mk BX.out.bel) hx4
     replace hx5 := bcl (Aside0.mk BX.out.bel) hx5
     replace hx6 := bcl (Aside0.mk BX.out.bel) hx6
     replace hx7 := bcl (Aside0.mk BX.out.bel) hx7
     replace hx8 := bcl (Aside0.mk BX.out.bel) hx8
     rw [Int.toNat_natCast] at hx0 hx1 hx2 hx3 hx4 hx5 hx6 hx7 hx8
     have hv := HL.out
     rw [drop_sl l0_0 i hlt, spec_Release.l_cons] at hv
     obtain ⟨s, hs⟩ : ∃ s, s = rd_T32 l0_0 i := ⟨_, rfl⟩
     rw [← hs] at hv hl4 hi4 hx0 hx1 hx2 hx3 hx4 hx5 hx6 hx7 hx8
     clear hs HL
     obtain ⟨⟨t0, t1, t2, t3, t4, t5, t6, t7, t8⟩, hcp, hv⟩ := Option.bind_eq_some_iff.mp hv
     have HCP := Aside0.mk hcp
     have HC4 := Aside0.mk hi4
     have HL4 := Aside0.mk hl4
     change spec_Release.l k a1 (l0_0.drop (i + 1)) (if rlK (rlS a1 ⟨⟨t0, t1⟩, t2, t3, t4, t5, t6, t7, t8⟩) = true then out ++ [rlS a1 ⟨⟨t0, t1⟩, t2, t3, t4, t5, t6, t7, t8⟩] else out) = some r at hv
     clear hcp hi4 hl4
     by_cases c1 : t7 = wrap64 (a1 + 1)
     ·
      have c1b : (t7 == wrap64 (a1 + 1)) = true := beq_iff_eq.2 c1
      cases t2 with
      | true =>
       have e1 : rlS a1 ⟨⟨t0, t1⟩, true, t3, t4, t5, t6, t7, t8⟩ = ⟨⟨t0, t1⟩, true, t3, t4, t5, t6, 0, 0⟩ := by unfold rlS; rw [if_pos c1]
       rw [e1, if_pos (by unfold rlK; rfl)] at hv
       clear c1 e1
       have HN2 := Aside0.mk (show spec_Release.l k a1 (l0_0.drop (i + 1)) (out ++ [⟨⟨t0, t1⟩, true, t3, t4, t5, t6, 0, 0⟩]) = some r from by exact hv)
       clear hv
       have HBW := Aside0.mk (below_size BX.out.bel)
       go_upto_region 12 with (first | ((with_reducible refine gate_callee (f := 75) rfl ?_); refine goesL_ (some 31) rfl rfl Tryd.func75 (by kernel_rfl) rfl #[.agg #[.int .i64 s.f0.f0, .string s.f0.f1, .bool s.f1, .string s.f2, .slice A4 s.f3.length c4, .int .i64 s.f4, .int .i64 s.f5, .int .i64 s.f6, .int .i64 s.f7]] rfl (by (try simp only [List.map_toArray, List.map_cons, List.map_nil]); first | done | rfl | (simp only [List.length_drop, List.length_take]; rfl)) ?_; refine (spec_l4CopySlot.calls k s.f0.f0 s.f0.f1 s.f1 s.f2 A4 c4 s.f3 s.f4 s.f5 s.f6 s.f7 t0 t1 _ t3 t4 t5 t6 t7 t8 _ (Kd.C_below HC4.out BX.out.bel) HL4.out HCP.out).mono ?_; rintro e w2 ⟨v4, rfl, hR4, hb⟩; refine ⟨_, rfl, ?_⟩; obtain ⟨Ao, co, rfl⟩ := Kd.R_slice hR4; have BX2 := Aside0.mk (BX.out.keep hb); have HBr := Aside0.mk hb; have HR4 := Aside0.mk hR4; have HSr := Aside0.mk BX.out.S; clear hb hR4 BX hq0 hx0 hx1 hx2 hx3 hx4 hx5 hx6 hx7 hx8))
       go_wp2_with (first | ((with_reducible refine gate_builtin (b := .append) (xs := #[.tmp 46, .tmp 48]) rfl ?_); at_builtin; have HB3 := Aside0.mk (show Below w2.heap.size w2 (w2.alloc (.cells #[.int .i64 t0, .string t1, .bool true, .string t3, .slice Ao t4.length co, .int .i64 t5, .int .i64 t6, .int .i64 0, .int .i64 0] 32)) from below_alloc (Below.refl _ _) _); have BX3 := Aside0.mk (BX2.out.keep HB3.out); have hR3 : Kd.R k29 29 (w2.alloc (.cells #[.int .i64 t0, .string t1, .bool true, .string t3, .slice Ao t4.length co, .int .i64 t5, .int .i64 t6, .int .i64 0, .int .i64 0] 32)) w.heap.size (fun k => some k = (Value.slice Ao t4.length co).ownBlock) (.slice Ao t4.length co) t4 := Kd.R_tight rfl (Kd.R_lower (Kd.R_below HR4.out HB3.out) HBW.out); refine Kd.S_append k32 (w0 := w) w.heap.size rfl (.tmp 46) (.tmp 48) 34 32 (.agg #[(.int .i64 0), (.string ⟨#[]⟩), (.bool false), (.string ⟨#[]⟩), (.slice none 0 0), (.int .i64 0), (.int .i64 0), (.int .i64 0), (.int .i64 0)]) 104 rfl Tryd.underlying34 info32 rfl (by decide) (by omega) u5 out (⟨⟨t0, t1⟩, true, t3, t4, t5, t6, 0, 0⟩ : S32) [.int .i64 t0, .string t1, .bool true, .string t3, .slice Ao t4.length co, .int .i64 t5, .int .i64 t6, .int .i64 0, .int .i64 0] (fun _ => True) (fun k => some k = (Value.slice Ao t4.length co).ownBlock) rfl (by first | rfl | (go_simp; done) | (simp; done) | (go_simp; rfl)) (k32_mkM _ _ _ (⟨⟨t0, t1⟩, true, t3, t4, t5, t6, 0, 0⟩ : S32) hR3) (fun k hk => ⟨trivial, fun e_ => by have h1 := Kd.R_base HR4.out k hk.symm; have h2 := Kd.S_lt HSr.out k e_.symm; omega⟩) (fun _ _ => trivial) (Kd.S_mono (Kd.S_below (Kd.S_below (Kd.S_mono (Kd.S_bound HSr.out) (fun k hk => (⟨trivial, hk.2.2.1⟩ : True ∧ k < wr.heap.size))) HBr.out) HB3.out) (fun k hk => ⟨trivial, fun e_ => by have h1 := Kd.R_base HR4.out k e_.symm; have h2 := hk.2; omega⟩)) BX3.out.bel (below_size BX3.out.bel) (by have := HO.out; have := HN.out; omega) ?_; intro v9 w9 hS9 hB9 hG9 _; have BX9 := Aside0.mk (BX3.out.grown hG9 hB9 hS9); clear hS9 hB9 hG9 hR3 BX3 HB3 BX2 HBr HR4 HSr))
       go_roundw
       case rel => exact ⟨i + 1, _, by omega, congrArg (Value.int .i64) (wrapM i (by have := HN.out; omega)), HN2, ⟨by rw [List.length_append]; have := HO.out; simp; omega⟩, BX9⟩
       case measure => (rw [wrapM i (by have := HN.out; omega)]; simp only [intOf, Int.toNat_natCast]; omega)
      | false =>
       have e1 : rlS a1 ⟨⟨t0, t1⟩, false, t3, t4, t5, t6, t7, t8⟩ = ⟨⟨t0, t1⟩, false, t3, t4, t5, t6, 0, 0⟩ := by unfold rlS; rw [if_pos c1]
       rw [e1, if_neg (by unfold rlK; simp)] at hv
       clear c1 e1
       have HN2 := Aside0.mk (show spec_Release.l k a1 (l0_0.drop (i + 1)) out = some r from by exact hv)
       clear hv
       go_wp2_with (first | ((with_reducible refine gate_callee (f := 75) rfl ?_); refine goesL_ (some 31) rfl rfl Tryd.func75 (by kernel_rfl) rfl #[.agg #[.int .i64 s.f0.f0, .string s.f0.f1, .bool s.f1, .string s.f2, .slice A4 s.f3.length c4, .int .i64 s.f4, .int .i64 s.f5, .int .i64 s.f6, .int .i64 s.f7]] rfl (by (try simp only [List.map_toArray, List.map_cons, List.map_nil]); first | done | rfl | (simp only [List.length_drop, List.length_take]; rfl)) ?_; refine (spec_l4CopySlot.calls k s.f0.f0 s.f0.f1 s.f1 s.f2 A4 c4 s.f3 s.f4 s.f5 s.f6 s.f7 t0 t1 _ t3 t4 t5 t6 t7 t8 _ (Kd.C_below HC4.out BX.out.bel) HL4.out HCP.out).mono ?_; rintro e w2 ⟨v4, rfl, hR4, hb⟩; refine ⟨_, rfl, ?_⟩; obtain ⟨Ao, co, rfl⟩ := Kd.R_slice hR4; have BX2 := Aside0.mk (BX.out.keep hb); have HBr := Aside0.mk hb; have HR4 := Aside0.mk hR4; have HSr := Aside0.mk BX.out.S; clear hb hR4 BX hq0 hx0 hx1 hx2 hx3 hx4 hx5 hx6 hx7 hx8))
       (obtain ⟨W3, hW3⟩ : ∃ W_ : World, W_ = w2.alloc (.cells #[.int .i64 t0, .string t1, .bool false, .string t3, .slice Ao t4.length co, .int .i64 t5, .int .i64 t6, .int .i64 0, .int .i64 0] 32) := ⟨_, rfl⟩; rw [← hW3]; have HB3 := Aside0.mk (show Below w2.heap.size w2 W3 by rw [hW3]; exact below_alloc (Below.refl _ _) _))
       have BX3 := Aside0.mk (BX2.out.keep HB3.out)
       go_roundw
       case rel => exact ⟨i + 1, out, by omega, congrArg (Value.int .i64) (wrapM i (by have := HN.out; omega)), HN2, ⟨by have := HO.out; omega⟩, BX3⟩
       case measure => (rw [wrapM i (by have := HN.out; omega)]; simp only [intOf, Int.toNat_natCast]; omega)
     have c1b : (t7 == wrap64 (a1 + 1)) = false := beq_eq_false_iff_ne.2 c1
     cases t2 with
     | true =>
      have e1 : rlS a1 ⟨⟨t0, t1⟩, true, t3, t4, t5, t6, t7, t8⟩ = ⟨⟨t0, t1⟩, true, t3, t4, t5, t6, t7, t8⟩ := by unfold rlS; rw [if_neg c1]
      rw [e1, if_pos (by unfold rlK; rfl)] at hv
      clear c1 e1
      have HN2 := Aside0.mk (show spec_Release.l k a1 (l0_0.drop (i + 1)) (out ++ [⟨⟨t0, t1⟩, true, t3, t4, t5, t6, t7, t8⟩]) = some r from by exact hv)
      clear hv
      have HBW := Aside0.mk (below_size BX.out.bel)
      go_upto_region 12 with (first | ((with_reducible refine gate_callee (f := 75) rfl ?_); refine goesL_ (some 31) rfl rfl Tryd.func75 (by kernel_rfl) rfl #[.agg #[.int .i64 s.f0.f0, .string s.f0.f1, .bool s.f1, .string s.f2, .slice A4 s.f3.length c4, .int .i64 s.f4, .int .i64 s.f5, .int .i64 s.f6, .int .i64 s.f7]] rfl (by (try simp only [List.map_toArray, List.map_cons, List.map_nil]); first | done | rfl | (simp only [List.length_drop, List.length_take]; rfl)) ?_; refine (spec_l4CopySlot.calls k s.f0.f0 s.f0.f1 s.f1 s.f2 A4 c4 s.f3 s.f4 s.f5 s.f6 s.f7 t0 t1 _ t3 t4 t5 t6 t7 t8 _ (Kd.C_below HC4.out BX.out.bel) HL4.out HCP.out).mono ?_; rintro e w2 ⟨v4, rfl, hR4, hb⟩; refine ⟨_, rfl, ?_⟩; obtain ⟨Ao, co, rfl⟩ := Kd.R_slice hR4; have BX2 := Aside0.mk (BX.out.keep hb); have HBr := Aside0.mk hb; have HR4 := Aside0.mk hR4; have HSr := Aside0.mk BX.out.S; clear hb hR4 BX hq0 hx0 hx1 hx2 hx3 hx4 hx5 hx6 hx7 hx8))
      go_wp2_with (first | ((with_reducible refine gate_builtin (b := .append) (xs := #[.tmp 46, .tmp 48]) rfl ?_); at_builtin; have HB3 := Aside0.mk (show Below w2.heap.size w2 (w2.alloc (.cells #[.int .i64 t0, .string t1, .bool true, .string t3, .slice Ao t4.length co, .int .i64 t5, .int .i64 t6, .int .i64 t7, .int .i64 t8] 32)) from below_alloc (Below.refl _ _) _); have BX3 := Aside0.mk (BX2.out.keep HB3.out); have hR3 : Kd.R k29 29 (w2.alloc (.cells #[.int .i64 t0, .string t1, .bool true, .string t3, .slice Ao t4.length co, .int .i64 t5, .int .i64 t6, .int .i64 t7, .int .i64 t8] 32)) w.heap.size (fun k => some k = (Value.slice Ao t4.length co).ownBlock) (.slice Ao t4.length co) t4 := Kd.R_tight rfl (Kd.R_lower (Kd.R_below HR4.out HB3.out) HBW.out); refine Kd.S_append k32 (w0 := w) w.heap.size rfl (.tmp 46) (.tmp 48) 34 32 (.agg #[(.int .i64 0), (.string ⟨#[]⟩), (.bool false), (.string ⟨#[]⟩), (.slice none 0 0), (.int .i64 0), (.int .i64 0), (.int .i64 0), (.int .i64 0)]) 104 rfl Tryd.underlying34 info32 rfl (by decide) (by omega) u5 out (⟨⟨t0, t1⟩, true, t3, t4, t5, t6, t7, t8⟩ : S32) [.int .i64 t0, .string t1, .bool true, .string t3, .slice Ao t4.length co, .int .i64 t5, .int .i64 t6, .int .i64 t7, .int .i64 t8] (fun _ => True) (fun k => some k = (Value.slice Ao t4.length co).ownBlock) rfl (by first | rfl | (go_simp; done) | (simp; done) | (go_simp; rfl)) (k32_mkM _ _ _ (⟨⟨t0, t1⟩, true, t3, t4, t5, t6, t7, t8⟩ : S32) hR3) (fun k hk => ⟨trivial, fun e_ => by have h1 := Kd.R_base HR4.out k hk.symm; have h2 := Kd.S_lt HSr.out k e_.symm; omega⟩) (fun _ _ => trivial) (Kd.S_mono (Kd.S_below (Kd.S_below (Kd.S_mono (Kd.S_bound HSr.out) (fun k hk => (⟨trivial, hk.2.2.1⟩ : True ∧ k < wr.heap.size))) HBr.out) HB3.out) (fun k hk => ⟨trivial, fun e_ => by have h1 := Kd.R_base HR4.out k e_.symm; have h2 := hk.2; omega⟩)) BX3.out.bel (below_size BX3.out.bel) (by have := HO.out; have := HN.out; omega) ?_; intro v9 w9 hS9 hB9 hG9 _; have BX9 := Aside0.mk (BX3.out.grown hG9 hB9 hS9); clear hS9 hB9 hG9 hR3 BX3 HB3 BX2 HBr HR4 HSr))
      go_roundw
      case rel => exact ⟨i + 1, _, by omega, congrArg (Value.int .i64) (wrapM i (by have := HN.out; omega)), HN2, ⟨by rw [List.length_append]; have := HO.out; simp; omega⟩, BX9⟩
      case measure => (rw [wrapM i (by have := HN.out; omega)]; simp only [intOf, Int.toNat_natCast]; omega)
     | false =>
      have e1 : rlS a1 ⟨⟨t0, t1⟩, false, t3, t4, t5, t6, t7, t8⟩ = ⟨⟨t0, t1⟩, false, t3, t4, t5, t6, t7, t8⟩ := by unfold rlS; rw [if_neg c1]
      by_cases c3 : t7 = 0
      ·
       have c3b : (t7 != 0) = false := bne_eq_false_iff_eq.2 c3
       have c3d : (t7 == 0) = true := beq_iff_eq.2 c3
       rw [e1, if_neg (by unfold rlK; simp [c3d])] at hv
       clear c1 e1 c3
       have HN2 := Aside0.mk (show spec_Release.l k a1 (l0_0.drop (i + 1)) out = some r from by exact hv)
       clear hv
       go_wp2_with (first | ((with_reducible refine gate_callee (f := 75) rfl ?_); refine goesL_ (some 31) rfl rfl Tryd.func75 (by kernel_rfl) rfl #[.agg #[.int .i64 s.f0.f0, .string s.f0.f1, .bool s.f1, .string s.f2, .slice A4 s.f3.length c4, .int .i64 s.f4, .int .i64 s.f5, .int .i64 s.f6, .int .i64 s.f7]] rfl (by (try simp only [List.map_toArray, List.map_cons, List.map_nil]); first | done | rfl | (simp only [List.length_drop, List.length_take]; rfl)) ?_; refine (spec_l4CopySlot.calls k s.f0.f0 s.f0.f1 s.f1 s.f2 A4 c4 s.f3 s.f4 s.f5 s.f6 s.f7 t0 t1 _ t3 t4 t5 t6 t7 t8 _ (Kd.C_below HC4.out BX.out.bel) HL4.out HCP.out).mono ?_; rintro e w2 ⟨v4, rfl, hR4, hb⟩; refine ⟨_, rfl, ?_⟩; obtain ⟨Ao, co, rfl⟩ := Kd.R_slice hR4; have BX2 := Aside0.mk (BX.out.keep hb); have HBr := Aside0.mk hb; have HR4 := Aside0.mk hR4; have HSr := Aside0.mk BX.out.S; clear hb hR4 BX hq0 hx0 hx1 hx2 hx3 hx4 hx5 hx6 hx7 hx8))
       (obtain ⟨W3, hW3⟩ : ∃ W_ : World, W_ = w2.alloc (.cells #[.int .i64 t0, .string t1, .bool false, .string t3, .slice Ao t4.length co, .int .i64 t5, .int .i64 t6, .int .i64 t7, .int .i64 t8] 32) := ⟨_, rfl⟩; rw [← hW3]; have HB3 := Aside0.mk (show Below w2.heap.size w2 W3 by rw [hW3]; exact below_alloc (Below.refl _ _) _))
       have BX3 := Aside0.mk (BX2.out.keep HB3.out)
       go_roundw
       case rel => exact ⟨i + 1, out, by omega, congrArg (Value.int .i64) (wrapM i (by have := HN.out; omega)), HN2, ⟨by have := HO.out; omega⟩, BX3⟩
       case measure => (rw [wrapM i (by have := HN.out; omega)]; simp only [intOf, Int.toNat_natCast]; omega)
      have c3b : (t7 != 0) = true := bne_iff_ne.2 c3
      have c3d : (t7 == 0) = false := beq_eq_false_iff_ne.2 c3
      rw [e1, if_pos (by unfold rlK; rw [c3d]; rfl)] at hv
      clear c1 e1 c3
      have HN2 := Aside0.mk (show spec_Release.l k a1 (l0_0.drop (i + 1)) (out ++ [⟨⟨t0, t1⟩, false, t3, t4, t5, t6, t7, t8⟩]) = some r from by exact hv)
      clear hv
      have HBW := Aside0.mk (below_size BX.out.bel)
      go_upto_region 12 with (first | ((with_reducible refine gate_callee (f := 75) rfl ?_); refine goesL_ (some 31) rfl rfl Tryd.func75 (by kernel_rfl) rfl #[.agg #[.int .i64 s.f0.f0, .string s.f0.f1, .bool s.f1, .string s.f2, .slice A4 s.f3.length c4, .int .i64 s.f4, .int .i64 s.f5, .int .i64 s.f6, .int .i64 s.f7]] rfl (by (try simp only [List.map_toArray, List.map_cons, List.map_nil]); first | done | rfl | (simp only [List.length_drop, List.length_take]; rfl)) ?_; refine (spec_l4CopySlot.calls k s.f0.f0 s.f0.f1 s.f1 s.f2 A4 c4 s.f3 s.f4 s.f5 s.f6 s.f7 t0 t1 _ t3 t4 t5 t6 t7 t8 _ (Kd.C_below HC4.out BX.out.bel) HL4.out HCP.out).mono ?_; rintro e w2 ⟨v4, rfl, hR4, hb⟩; refine ⟨_, rfl, ?_⟩; obtain ⟨Ao, co, rfl⟩ := Kd.R_slice hR4; have BX2 := Aside0.mk (BX.out.keep hb); have HBr := Aside0.mk hb; have HR4 := Aside0.mk hR4; have HSr := Aside0.mk BX.out.S; clear hb hR4 BX hq0 hx0 hx1 hx2 hx3 hx4 hx5 hx6 hx7 hx8))
      go_wp2_with (first | ((with_reducible refine gate_builtin (b := .append) (xs := #[.tmp 46, .tmp 48]) rfl ?_); at_builtin; have HB3 := Aside0.mk (show Below w2.heap.size w2 (w2.alloc (.cells #[.int .i64 t0, .string t1, .bool false, .string t3, .slice Ao t4.length co, .int .i64 t5, .int .i64 t6, .int .i64 t7, .int .i64 t8] 32)) from below_alloc (Below.refl _ _) _); have BX3 := Aside0.mk (BX2.out.keep HB3.out); have hR3 : Kd.R k29 29 (w2.alloc (.cells #[.int .i64 t0, .string t1, .bool false, .string t3, .slice Ao t4.length co, .int .i64 t5, .int .i64 t6, .int .i64 t7, .int .i64 t8] 32)) w.heap.size (fun k => some k = (Value.slice Ao t4.length co).ownBlock) (.slice Ao t4.length co) t4 := Kd.R_tight rfl (Kd.R_lower (Kd.R_below HR4.out HB3.out) HBW.out); refine Kd.S_append k32 (w0 := w) w.heap.size rfl (.tmp 46) (.tmp 48) 34 32 (.agg #[(.int .i64 0), (.string ⟨#[]⟩), (.bool false), (.string ⟨#[]⟩), (.slice none 0 0), (.int .i64 0), (.int .i64 0), (.int .i64 0), (.int .i64 0)]) 104 rfl Tryd.underlying34 info32 rfl (by decide) (by omega) u5 out (⟨⟨t0, t1⟩, false, t3, t4, t5, t6, t7, t8⟩ : S32) [.int .i64 t0, .string t1, .bool false, .string t3, .slice Ao t4.length co, .int .i64 t5, .int .i64 t6, .int .i64 t7, .int .i64 t8] (fun _ => True) (fun k => some k = (Value.slice Ao t4.length co).ownBlock) rfl (by first | rfl | (go_simp; done) | (simp; done) | (go_simp; rfl)) (k32_mkM _ _ _ (⟨⟨t0, t1⟩, false, t3, t4, t5, t6, t7, t8⟩ : S32) hR3) (fun k hk => ⟨trivial, fun e_ => by have h1 := Kd.R_base HR4.out k hk.symm; have h2 := Kd.S_lt HSr.out k e_.symm; omega⟩) (fun _ _ => trivial) (Kd.S_mono (Kd.S_below (Kd.S_below (Kd.S_mono (Kd.S_bound HSr.out) (fun k hk => (⟨trivial, hk.2.2.1⟩ : True ∧ k < wr.heap.size))) HBr.out) HB3.out) (fun k hk => ⟨trivial, fun e_ => by have h1 := Kd.R_base HR4.out k e_.symm; have h2 := hk.2; omega⟩)) BX3.out.bel (below_size BX3.out.bel) (by have := HO.out; have := HN.out; omega) ?_; intro v9 w9 hS9 hB9 hG9 _; have BX9 := Aside0.mk (BX3.out.grown hG9 hB9 hS9); clear hS9 hB9 hG9 hR3 BX3 HB3 BX2 HBr HR4 HSr))
      go_roundw
      case rel => exact ⟨i + 1, _, by omega, congrArg (Value.int .i64) (wrapM i (by have := HN.out; omega)), HN2, ⟨by rw [List.length_append]; have := HO.out; simp; omega⟩, BX9⟩
      case measure => (rw [wrapM i (by have := HN.out; omega)]; simp only [intOf, Int.toNat_natCast]; omega)
    have ql : decide (i < l0_0.length) = false := decide_eq_false hlt
    have he : out = r := by have := HL.out; rw [List.drop_eq_nil_of_le (by omega)] at this; exact Option.some.inj this
    subst he
    have hq1 : wr.cell? ⟨w.heap.size + 1, 0, none⟩ = some (.slice none 0 0) := (blk_cell BX.out.h1 0).trans rfl
    have hqf := blk_frozen BX.out.h1 0
    clear hlt HL hi
    obtain ⟨Au, cu, rfl⟩ := Kd.S_slice BX.out.S
    go_wp2
    refine bodyPost_ret (results_cell_row rfl _ _ (w.heap.size + 1) 36 #[.slice Au out.length cu] (0, 0) _ rfl (blk_put BX.out.h1 0 _ rfl) Tryd.underlying36 rfl (by kernel_rfl)) rfl ?_
    exact ⟨.slice Au out.length cu, rfl, Kd.S_set BX.out.S BX.out.h1 (by decide) 0 _, below_set BX.out.bel (by show w.heap.size ≤ w.heap.size + 1; omega)⟩
def impl_wordByte.f (a0 : Int) : Option (Bool) := if a0 ≥ 97 then (if a0 ≤ 122 then (some true) else (if a0 ≥ 48 then (if a0 ≤ 57 then (some true) else (some (a0 == 95))) else (some (a0 == 95)))) else (if a0 ≥ 48 then (if a0 ≤ 57 then (some true) else (some (a0 == 95))) else (some (a0 == 95)))
set_option maxHeartbeats 8000000 in
set_option maxRecDepth 100000 in
theorem impl_wordByte.calls (a0 : Int) (r : Bool) (w : World) (h : impl_wordByte.f a0 = some r) :
 Calls Tryd.prog 155 #[.int .u8 a0] w fun e w' => e = .returned (.bool r) ∧ Drawn0 w w' := by
 have H : (if a0 ≥ 97 then (if a0 ≤ 122 then (some true) else (if a0 ≥ 48 then (if a0 ≤ 57 then (some true) else (some (a0 == 95))) else (some (a0 == 95)))) else (if a0 ≥ 48 then (if a0 ≤ 57 then (some true) else (some (a0 == 95))) else (some (a0 == 95)))) = some r := h
 clear h
 by_cases c2 : a0 ≥ 97
 ·
  rw [if_pos c2] at H
  have c2b0 : decide (97 ≤ a0) = true := decide_eq_true c2
  clear c2
  by_cases c3 : a0 ≤ 122
  ·
   rw [if_pos c3] at H
   have c3b0 : decide (a0 ≤ 122) = true := decide_eq_true c3
   clear c3
   obtain rfl := Option.some.inj H
   go_enter Tryd.func155, Tryd.ntmps155
   go_wp2
   go_ret
   exact ⟨by first | rfl | (simp; done) | (simp [*]; done), by repeat (first | exact Drawn0.refl _ | apply Drawn0.step)⟩
  rw [if_neg c3] at H
  have c3b0 : decide (a0 ≤ 122) = false := decide_eq_false c3
  clear c3
  by_cases c4 : a0 ≥ 48
  ·
   rw [if_pos c4] at H
   have c4b0 : decide (48 ≤ a0) = true := decide_eq_true c4
   clear c4
   by_cases c5 : a0 ≤ 57
   ·
    rw [if_pos c5] at H
    have c5b0 : decide (a0 ≤ 57) = true := decide_eq_true c5
    clear c5
    obtain rfl := Option.some.inj H
    go_enter Tryd.func155, Tryd.ntmps155
    go_wp2
    go_ret
    exact ⟨by first | rfl | (simp; done) | (simp [*]; done), by repeat (first | exact Drawn0.refl _ | apply Drawn0.step)⟩
   rw [if_neg c5] at H
   have c5b0 : decide (a0 ≤ 57) = false := decide_eq_false c5
   clear c5
   obtain rfl := Option.some.inj H
   go_enter Tryd.func155, Tryd.ntmps155
   go_wp2
   go_ret
   exact ⟨by first | rfl | (simp; done) | (simp [*]; done), by repeat (first | exact Drawn0.refl _ | apply Drawn0.step)⟩
  rw [if_neg c4] at H
  have c4b0 : decide (48 ≤ a0) = false := decide_eq_false c4
  clear c4
  obtain rfl := Option.some.inj H
  go_enter Tryd.func155, Tryd.ntmps155
  go_wp2
  go_ret
  exact ⟨by first | rfl | (simp; done) | (simp [*]; done), by repeat (first | exact Drawn0.refl _ | apply Drawn0.step)⟩
 rw [if_neg c2] at H
 have c2b0 : decide (97 ≤ a0) = false := decide_eq_false c2
 clear c2
 by_cases c6 : a0 ≥ 48
 ·
  rw [if_pos c6] at H
  have c6b0 : decide (48 ≤ a0) = true := decide_eq_true c6
  clear c6
  by_cases c7 : a0 ≤ 57
  ·
   rw [if_pos c7] at H
   have c7b0 : decide (a0 ≤ 57) = true := decide_eq_true c7
   clear c7
   obtain rfl := Option.some.inj H
   go_enter Tryd.func155, Tryd.ntmps155
   go_wp2
   go_ret
   exact ⟨by first | rfl | (simp; done) | (simp [*]; done), by repeat (first | exact Drawn0.refl _ | apply Drawn0.step)⟩
  rw [if_neg c7] at H
  have c7b0 : decide (a0 ≤ 57) = false := decide_eq_false c7
  clear c7
  obtain rfl := Option.some.inj H
  go_enter Tryd.func155, Tryd.ntmps155
  go_wp2
  go_ret
  exact ⟨by first | rfl | (simp; done) | (simp [*]; done), by repeat (first | exact Drawn0.refl _ | apply Drawn0.step)⟩
 rw [if_neg c6] at H
 have c6b0 : decide (48 ≤ a0) = false := decide_eq_false c6
 clear c6
 obtain rfl := Option.some.inj H
 go_enter Tryd.func155, Tryd.ntmps155
 go_wp2
 go_ret
 exact ⟨by first | rfl | (simp; done) | (simp [*]; done), by repeat (first | exact Drawn0.refl _ | apply Drawn0.step)⟩
theorem wordByte_wb (b : Int) : impl_wordByte.f b = some (wb b) := by
 unfold impl_wordByte.f wb
 by_cases h1 : b ≥ 97
 ·
  by_cases h2 : b ≤ 122
  · simp [h1, h2]
  by_cases h3 : b ≥ 48
  · by_cases h4 : b ≤ 57 <;> simp [h1, h2, h3, h4]
  simp [h1, h2, h3]
 by_cases h3 : b ≥ 48
 · by_cases h4 : b ≤ 57 <;> simp [h1, h3, h4]
 simp [h1, h3]
def impl_goodName.f (a0 : ByteArray) : Option Bool := some (gnB a0)
theorem gnB_no {s : ByteArray} (h : ¬ (1 ≤ s.size ∧ s.size ≤ 12 ∧ resB s.data.toList = false ∧ 97 ≤ bt s 0 ∧ bt s 0 ≤ 122 ∧ ∀ i : Nat, i < s.size → wb (bt s i) = true)) : gnB s = false := decide_eq_false h
set_option maxHeartbeats 4000000 in
set_option maxRecDepth 100000 in
theorem impl_goodName.calls (a0 : ByteArray) (r : Bool) (w : World) (hG : GRes w) (h : impl_goodName.f a0 = some r) :
 Calls Tryd.prog 120 #[.string a0] w fun e w' => e = .returned (.bool r) ∧ Drawn0 w w' := by
 obtain rfl := Option.some.inj h
 clear h
 by_cases c1 : (a0.size : Int) < 1
 ·
  have e := gnB_no (s := a0) (by omega)
  rw [e]
  clear e
  have c1b0 : decide ((a0.size : Int) < 1) = true := decide_eq_true c1
  have c1b1 : decide (a0.size < 1) = true := decide_eq_true (by omega)
  clear c1 hG
  go_enter Tryd.func120, Tryd.ntmps120
  go_wp2
  go_ret
  exact ⟨rfl, Drawn0.refl _⟩
 by_cases c2 : (a0.size : Int) > 12
 ·
  have e := gnB_no (s := a0) (by omega)
  rw [e]
  clear e
  have c1b0 : decide ((a0.size : Int) < 1) = false := decide_eq_false c1
  have c1b1 : decide (a0.size < 1) = false := decide_eq_false (by omega)
  have c2b0 : decide (12 < (a0.size : Int)) = true := decide_eq_true c2
  have c2b1 : decide (12 < a0.size) = true := decide_eq_true (by omega)
  clear c1 c2 hG
  go_enter Tryd.func120, Tryd.ntmps120
  go_wp2
  go_ret
  exact ⟨rfl, Drawn0.refl _⟩
 obtain ⟨bR, hcell, hown⟩ := hG.out
 have hlk := res_lookup hown a0 (by unfold maxLen; omega)
 have q6 : (0 < a0.size) = True := eq_true (by omega)
 have qi6 : (0 < (a0.size : Int)) = True := eq_true (by omega)
 have hx6 : ∀ h : 0 < a0.size, ((a0[0]'h).toNat : Int) = bt a0 0 := bt_at a0 0
 have Hs1 := Lib.hid (show 1 ≤ a0.size ∧ a0.size ≤ 12 by omega)
 have c1b0 : decide ((a0.size : Int) < 1) = false := decide_eq_false c1
 have c1b1 : decide (a0.size < 1) = false := decide_eq_false (by omega)
 have c2b0 : decide (12 < (a0.size : Int)) = false := decide_eq_false c2
 have c2b1 : decide (12 < a0.size) = false := decide_eq_false (by omega)
 clear c1 c2 hown hG
 cases hr : resB a0.data.toList
 case true =>
  have e := gnB_no (s := a0) (by intro hh; rw [hh.2.2.1] at hr; cases hr)
  rw [e]
  rw [hr, if_pos rfl] at hlk
  clear e hr Hs1
  go_enter Tryd.func120, Tryd.ntmps120
  go_wp2
  go_ret
  exact ⟨rfl, Drawn0.refl _⟩
 rw [hr, if_neg (by simp)] at hlk
 have Hr := Lib.hid hr
 clear hr
 by_cases c3 : bt a0 0 < 97
 ·
  have e := gnB_no (s := a0) (by omega)
  rw [e]
  clear e Hs1 Hr
  have c3b0 : decide (bt a0 0 < 97) = true := decide_eq_true c3
  clear c3
  go_enter Tryd.func120, Tryd.ntmps120
  go_wp2
  go_ret
  exact ⟨rfl, Drawn0.refl _⟩
 by_cases c4 : bt a0 0 > 122
 ·
  have e := gnB_no (s := a0) (by omega)
  rw [e]
  clear e Hs1 Hr
  have c3b0 : decide (bt a0 0 < 97) = false := decide_eq_false c3
  have c4b0 : decide (122 < bt a0 0) = true := decide_eq_true c4
  clear c3 c4
  go_enter Tryd.func120, Tryd.ntmps120
  go_wp2
  go_ret
  exact ⟨rfl, Drawn0.refl _⟩
 have H0 := Lib.hid (show 97 ≤ bt a0 0 ∧ bt a0 0 ≤ 122 by omega)
 have c3b0 : decide (bt a0 0 < 97) = false := decide_eq_false c3
 have c4b0 : decide (122 < bt a0 0) = false := decide_eq_false c4
 clear c3 c4
 go_enter Tryd.func120, Tryd.ntmps120
 go_wp2
 clear hx6 q6 qi6 c1b0 c1b1 c2b0 c2b1 c3b0 c4b0 hlk hcell
 go_loopw [30] (fun i wr => ∃ k : Nat, k ≤ a0.size ∧ i = .int .i64 k ∧ Aside0 (∀ j : Nat, j < k → wb (bt a0 j) = true) ∧ Drawn0 w wr) (fun i _ => a0.size - (intOf i).toNat)
 case atStart => exact ⟨0, Nat.zero_le _, rfl, ⟨fun j hj => by omega⟩, Drawn0.refl _⟩
 case round =>
  obtain ⟨k, hk, rfl, HA, HD⟩ := hrel
  by_cases hlt : k < a0.size
  ·
   have hx : ∀ h : k < a0.size, ((a0[k]'h).toNat : Int) = bt a0 (k : Int) := fun h => by simp [bt, h]
   have ql : decide (k < a0.size) = true := decide_eq_true hlt
   have hs12 := Hs1.out.2
   cases hw : wb (bt a0 k)
   case true =>
    have HW := Lib.hid hw
    clear hw
    go_wp2_with (go_at_call 155; (refine (impl_wordByte.calls _ _ _ ((wordByte_wb _).trans (congrArg some HW.out))).mono ?_); rintro e w' ⟨rfl, ⟨nd, rfl⟩⟩)
    go_roundw
    case rel => exact ⟨k + 1, by omega, by go_num, ⟨fun j hj => by
     rcases Nat.lt_succ_iff_lt_or_eq.1 hj with h | rfl
     · exact HA.out j h
     exact HW.out⟩, HD.step _⟩
    case measure => simp [intOf]; omega
   case false =>
    have e := gnB_no (s := a0) (fun hh => by rw [hh.2.2.2.2.2 k hlt] at hw; cases hw)
    have HW := Lib.hid hw
    clear hw
    have E := Lib.hid e
    clear e
    go_wp2_with (go_at_call 155; (refine (impl_wordByte.calls _ _ _ ((wordByte_wb _).trans (congrArg some HW.out))).mono ?_); rintro e w' ⟨rfl, ⟨nd, rfl⟩⟩)
    go_ret
    exact ⟨by simp [E.out], HD.step _⟩
  obtain rfl : k = a0.size := by omega
  have e : gnB a0 = true := decide_eq_true ⟨Hs1.out.1, Hs1.out.2, Hr.out, H0.out.1, H0.out.2, HA.out⟩
  have E := Lib.hid e
  clear e hlt hk
  go_wp2
  go_ret
  exact ⟨by simp [E.out], HD⟩
def impl_Key_valid.f (a0_0 : Int) (a0_1 : ByteArray) : Option (Bool) := if a0_0 ≥ 1 then (if a0_0 ≤ 3 then ((impl_goodName.f a0_1).bind fun t205 => (some t205)) else (some false)) else (some false)
set_option maxHeartbeats 8000000 in
set_option maxRecDepth 100000 in
theorem impl_Key_valid.calls (a0_0 : Int) (a0_1 : ByteArray) (r : Bool) (w : World) (hG : GRes w) (h : impl_Key_valid.f a0_0 a0_1 = some r) :
 Calls Tryd.prog 70 #[.agg #[.int .i64 a0_0, .string a0_1]] w fun e w' => e = .returned (.bool r) ∧ Below w.heap.size w w' := by
 have hu29 := Tryd.underlying29
 have HG := Aside0.mk hG
 clear hG
 have HB := Aside0.mk (Below.refl w.heap.size w)
 have H : (if a0_0 ≥ 1 then (if a0_0 ≤ 3 then ((impl_goodName.f a0_1).bind fun t205 => (some t205)) else (some false)) else (some false)) = some r := h
 clear h
 by_cases c2 : a0_0 ≥ 1
 ·
  rw [if_pos c2] at H
  have c2b0 : decide (1 ≤ a0_0) = true := decide_eq_true c2
  clear c2
  by_cases c3 : a0_0 ≤ 3
  ·
   rw [if_pos c3] at H
   have c3b0 : decide (a0_0 ≤ 3) = true := decide_eq_true c3
   clear c3
   replace H := Option.bind_eq_some_iff.mp H
   obtain ⟨t205, A40, H⟩ := H
   replace H : (some t205) = some r := H
   have A4 := Aside0.mk A40
   clear A40
   obtain rfl := Option.some.inj H
   go_enter Tryd.func70, Tryd.ntmps70
   go_wp2_with (first | ((with_reducible refine gate_dst (N := 1) rfl ?_); refine box_event ?hg (N := 1) ?hd (cs := #[.int .i64 a0_0, .string a0_1]) (t := 29) ?hr ?_; (case hd => rfl); (case hg => rfl); (case hr => first | (go_simp; done) | (go_simp; rfl)); intro gb204 hg w5 hbox hb; have hb1_ := fromQ HB.out hb; have hb0_ := below_step hb1_ hb; have hW_ := below_step HB.out hb1_; have n1_ := Aside0.mk (hbox); have n2_ := szle hg hW_; have n3_ := szle hg hW_; replace HB := kH HB hb0_; have BK204 := n1_; have GW204 := n2_; have GE204 := n3_; clear hb1_ hb0_ hW_ n1_ n2_ n3_; clear hb hbox hg; obtain ⟨hcz6_0, hcz6_1, hfz6_0, hfz6_1⟩ := bkA2 BK204.out) | (go_at_call 120; (with_reducible refine (impl_goodName.calls a0_1 t205 _ ?side1 A4.out).mono ?_); (case side1 => (first | (with_reducible exact HG.out) | exact GRes.below HG.out (by repeat (first | (with_reducible first | exact HB.out | apply below_alloc | apply pw_below_drewN | apply below_drew1 | refine below_set ?_ GE204.out) | exact HB.out)) | (repeat (first | exact HG.out | apply GRes.drewN | apply GRes.drew | apply GRes.alloc)))); rintro e w' ⟨rfl, ⟨nd, rfl⟩⟩))
   go_ret
   exact ⟨by first | rfl | (simp [errW_none, errW_some] <;> rfl) | (simp [*, errW_none, errW_some] <;> rfl), by repeat (first | (with_reducible first | exact HB.out | apply below_alloc | apply pw_below_drewN | apply below_drew1 | refine below_set ?_ GE204.out) | exact HB.out)⟩
  rw [if_neg c3] at H
  have c3b0 : decide (a0_0 ≤ 3) = false := decide_eq_false c3
  clear c3
  obtain rfl := Option.some.inj H
  go_enter Tryd.func70, Tryd.ntmps70
  go_wp2_with (first | ((with_reducible refine gate_dst (N := 1) rfl ?_); refine box_event ?hg (N := 1) ?hd (cs := #[.int .i64 a0_0, .string a0_1]) (t := 29) ?hr ?_; (case hd => rfl); (case hg => rfl); (case hr => first | (go_simp; done) | (go_simp; rfl)); intro gb204 hg w7 hbox hb; have hb1_ := fromQ HB.out hb; have hb0_ := below_step hb1_ hb; have hW_ := below_step HB.out hb1_; have n1_ := Aside0.mk (hbox); have n2_ := szle hg hW_; have n3_ := szle hg hW_; replace HB := kH HB hb0_; have BK204 := n1_; have GW204 := n2_; have GE204 := n3_; clear hb1_ hb0_ hW_ n1_ n2_ n3_; clear hb hbox hg; obtain ⟨hcz8_0, hcz8_1, hfz8_0, hfz8_1⟩ := bkA2 BK204.out))
  go_ret
  exact ⟨by first | rfl | (simp [errW_none, errW_some] <;> rfl) | (simp [*, errW_none, errW_some] <;> rfl), by repeat (first | (with_reducible first | exact HB.out | apply below_alloc | apply pw_below_drewN | apply below_drew1 | refine below_set ?_ GE204.out) | exact HB.out)⟩
 rw [if_neg c2] at H
 have c2b0 : decide (1 ≤ a0_0) = false := decide_eq_false c2
 clear c2
 obtain rfl := Option.some.inj H
 go_enter Tryd.func70, Tryd.ntmps70
 go_wp2_with (first | ((with_reducible refine gate_dst (N := 1) rfl ?_); refine box_event ?hg (N := 1) ?hd (cs := #[.int .i64 a0_0, .string a0_1]) (t := 29) ?hr ?_; (case hd => rfl); (case hg => rfl); (case hr => first | (go_simp; done) | (go_simp; rfl)); intro gb204 hg w9 hbox hb; have hb1_ := fromQ HB.out hb; have hb0_ := below_step hb1_ hb; have hW_ := below_step HB.out hb1_; have n1_ := Aside0.mk (hbox); have n2_ := szle hg hW_; have n3_ := szle hg hW_; replace HB := kH HB hb0_; have BK204 := n1_; have GW204 := n2_; have GE204 := n3_; clear hb1_ hb0_ hW_ n1_ n2_ n3_; clear hb hbox hg; obtain ⟨hcz10_0, hcz10_1, hfz10_0, hfz10_1⟩ := bkA2 BK204.out))
 go_ret
 exact ⟨by first | rfl | (simp [errW_none, errW_some] <;> rfl) | (simp [*, errW_none, errW_some] <;> rfl), by repeat (first | (with_reducible first | exact HB.out | apply below_alloc | apply pw_below_drewN | apply below_drew1 | refine below_set ?_ GE204.out) | exact HB.out)⟩
def kyB (k : S29) : Bool := decide (1 ≤ k.f0 ∧ k.f0 ≤ 3) && gnB k.f1
theorem keyValid_f (k : S29) : impl_Key_valid.f k.f0 k.f1 = some (kyB k) := by
 unfold impl_Key_valid.f kyB impl_goodName.f
 by_cases h1 : k.f0 ≥ 1
 · by_cases h2 : k.f0 ≤ 3
   · simp [h1, h2]
   simp [h1, h2]
 simp [h1]
theorem rd_mem_ky (l : List S29) {k : Nat} (h : k < l.length) : rd_T29 l k ∈ l := by
 unfold rd_T29
 rw [Int.toNat_natCast, List.getD_eq_getElem?_getD, List.getElem?_eq_getElem h]
 exact List.getElem_mem h
theorem slices_ContainsFunc_impl_Key_impl_Key_130.pred (a0_0 : Int) (a0_1 : ByteArray) (w : World) (hG : GRes w) :
 Calls Tryd.prog 130 #[.agg #[.int .i64 a0_0, .string a0_1]] w fun e w' => e = .returned (.bool (!kyB ⟨a0_0, a0_1⟩)) ∧ Below w.heap.size w w' := by
 have hu := Tryd.underlying29
 have HG := Aside0.mk (hG.alloc (.cells #[.int .i64 a0_0, .string a0_1] 29))
 have HF := Aside0.mk (keyValid_f ⟨a0_0, a0_1⟩)
 clear hG
 go_enter Tryd.func130, Tryd.ntmps130
 go_wp2_with (go_at_call 70; (refine (impl_Key_valid.calls _ _ _ _ (by exact HG.out) HF.out).mono ?_); rintro e w' ⟨rfl, hb⟩)
 go_ret
 exact ⟨rfl, below_then ((Below.refl _ _).alloc (Nat.le_refl _) _) (by simp) hb⟩
def idxKy : List S29 → Nat → Int
 | [], _ => -1
 | x :: r, k => if kyB x = false then k else idxKy r (k + 1)
theorem idxKy_cons (x : S29) (r : List S29) (k : Nat) : idxKy (x :: r) k = if kyB x = false then (k : Int) else idxKy r (k + 1) := rfl
theorem idxKy_any : ∀ (l : List S29) (k : Nat), decide (0 ≤ idxKy l k) = l.any fun x => !kyB x
 | [], _ => rfl
 | x :: r, k => by
  unfold idxKy
  rw [List.any_cons]
  cases h : kyB x
  · simp
  simpa using idxKy_any r (k + 1)
theorem drop_ky (l : List S29) (i : Nat) (hi : i < l.length) : l.drop i = rd_T29 l i :: l.drop (i + 1) := by
 rw [List.drop_eq_getElem_cons hi]
 unfold rd_T29
 rw [Int.toNat_natCast, List.getD_eq_getElem?_getD, List.getElem?_eq_getElem hi]
 rfl
set_option maxHeartbeats 4000000 in
theorem slices_ContainsFunc_impl_Key_impl_Key_130.idx (A0 : Option Addr) (c0 : Nat) (l0 : List S29) (w : World) (hG : GRes w) (hr0 : Kd.C k29 w A0 l0.length l0) :
 Calls Tryd.prog 127 #[.slice A0 l0.length c0, .func (.func 130) #[] #[]] w fun e w' => e = .returned (.int .i64 (idxKy l0 0)) ∧ Below w.heap.size w w' := by
 have hu := Tryd.underlying29
 have HG := Aside0.mk hG
 have HR0 := Aside0.mk hr0
 have hn := hr0.2.1
 clear hr0 hG
 go_enter Tryd.func127, Tryd.ntmps127
 go_wp2
 go_loopw [8] (fun i wr => ∃ k : Nat, k ≤ l0.length ∧ i = .int .i64 k ∧ Aside0 (idxKy (l0.drop k) k = idxKy l0 0) ∧ Aside0 (Below w.heap.size w wr)) (fun i _ => l0.length - (intOf i).toNat)
 case atStart => exact ⟨0, Nat.zero_le _, rfl, ⟨rfl⟩, ⟨Below.refl _ _⟩⟩
 case round =>
  obtain ⟨k, hk, rfl, HV, HB⟩ := hrel
  by_cases hlt : k < l0.length
  ·
   have p102 : 0 ≤ (k : Int) := by omega
   have q102 : (k : Int) < (l0.length : Int) := by omega
   obtain ⟨ad, e102, hx0, hx1⟩ := at_T29 HR0.out k p102 q102
   cases e102
   replace hx0 := bcl HB hx0
   replace hx1 := bcl HB hx1
   rw [Int.toNat_natCast] at hx0 hx1
   have HD := Aside0.mk (drop_ky l0 k hlt)
   obtain ⟨s, hs⟩ : ∃ s, s = rd_T29 l0 k := ⟨_, rfl⟩
   rw [← hs] at hx0 hx1
   have HS := Lib.hid hs
   clear hs
   have ql : decide (k < l0.length) = true := decide_eq_true hlt
   have hv := HV.out
   rw [HD.out, ← HS.out, idxKy_cons] at hv
   have HG1 := Aside0.mk (GRes.below HG.out HB.out)
   cases hc : kyB s
   case false =>
    rw [if_pos hc] at hv
    have HE := Aside0.mk hv
    have HP := Aside0.mk (show (!kyB ⟨s.f0, s.f1⟩) = true by rw [show (⟨s.f0, s.f1⟩ : S29) = s from rfl, hc]; rfl)
    clear hv hc
    go_wp2_with (go_at_call 130; (refine (slices_ContainsFunc_impl_Key_impl_Key_130.pred _ _ _ (by exact HG1.out)).mono ?_); rintro e w' ⟨rfl, hb⟩; rw [HP.out]; have HB1 := Aside0.mk (below_then HB.out HB.out.size hb); clear hb)
    go_ret
    exact ⟨by simp [← HE.out], HB1.out⟩
   case true =>
    rw [hc, if_neg (by simp)] at hv
    have HE := Aside0.mk hv
    have HP := Aside0.mk (show (!kyB ⟨s.f0, s.f1⟩) = false by rw [show (⟨s.f0, s.f1⟩ : S29) = s from rfl, hc]; rfl)
    clear hv hc
    go_wp2_with (go_at_call 130; (refine (slices_ContainsFunc_impl_Key_impl_Key_130.pred _ _ _ (by exact HG1.out)).mono ?_); rintro e w' ⟨rfl, hb⟩; rw [HP.out]; have HB1 := Aside0.mk (below_then HB.out HB.out.size hb); clear hb)
    go_roundw
    case rel => exact ⟨k + 1, by omega, by go_num, HE, HB1⟩
    case measure => simp [intOf]; omega
  obtain rfl : k = l0.length := by omega
  have HE := Aside0.mk (show idxKy l0 0 = -1 by rw [← HV.out, List.drop_length]; rfl)
  have ql : decide (l0.length < l0.length) = false := decide_eq_false hlt
  clear hlt hk
  go_wp2
  go_ret
  exact ⟨by simp [HE.out], HB.out⟩
def slices_ContainsFunc_impl_Key_impl_Key_130.f (l0 : List S29) : Option Bool := some (l0.any fun x => !kyB x)
set_option maxHeartbeats 4000000 in
theorem slices_ContainsFunc_impl_Key_impl_Key_130.calls (A0 : Option Addr) (c0 : Nat) (l0 : List S29) (r : Bool) (w : World) (hG : GRes w) (hr0 : Kd.C k29 w A0 l0.length l0) (hc0 : l0.length ≤ c0) (h : slices_ContainsFunc_impl_Key_impl_Key_130.f l0 = some r) :
 Calls Tryd.prog 86 #[.slice A0 l0.length c0, .func (.func 130) #[] #[]] w fun e w' => e = .returned (.bool r) ∧ Below w.heap.size w w' := by
 obtain rfl := Option.some.inj h
 have HI := Aside0.mk (slices_ContainsFunc_impl_Key_impl_Key_130.idx A0 c0 l0 w hG hr0)
 have hA := idxKy_any l0 0
 obtain ⟨x, hx⟩ : ∃ x, x = idxKy l0 0 := ⟨_, rfl⟩
 rw [← hx] at hA
 have HX := Aside0.mk hx
 clear hx h hG hr0
 have HA := Aside0.mk hA
 clear hA
 go_enter Tryd.func86, Tryd.ntmps86
 go_wp2_with (go_at_call 127; refine HI.out.mono ?_; rintro e w' ⟨rfl, hb⟩; rw [← HX.out])
 go_ret
 exact ⟨by simp [← HA.out], hb⟩
end Go.Proofs.YtnbohlcibgfjaaaDoor.Gp
end
