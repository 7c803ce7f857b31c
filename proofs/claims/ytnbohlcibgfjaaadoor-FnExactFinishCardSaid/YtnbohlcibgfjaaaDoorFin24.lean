/- A part of the proof of RowFnExactFinish: each text's theorems that it needs, packed by shake.py, a program of this work; Lean checks them. -/
import Derived.Test.YtnbohlcibgfjaaaDoorFin3
import Derived.Test.YtnbohlcibgfjaaaDoorFin20
import Derived.Test.YtnbohlcibgfjaaaDoorFin22
import Derived.Test.YtnbohlcibgfjaaaDoorFin23
import Derived.Test.YtnbohlcibgfjaaaDoorFin17
import Derived.Test.YtnbohlcibgfjaaaDoorFin21
section
namespace Go.Proofs.YtnbohlcibgfjaaaDoor.Gp
open Go.RowKit Go.Proofs.YtnbohlcibgfjaaaDoorW.PrintWords Go.Proofs.YtnbohlcibgfjaaaDoorW.PrintLast Go.Proofs.YtnbohlcibgfjaaaDoorW.PrintMore
set_option linter.unusedVariables false
set_option linter.unusedSimpArgs false
def rowT (q : RwT) : S32 := ⟨⟨q.f0.f0.f0, q.f0.f0.f1⟩, q.f2, q.f3, q.f4, q.f5, q.f6, q.f1, q.f0.f1⟩
theorem rd_mem_rw (l : List RwT) {k : Nat} (h : k < l.length) : rd_T101 l k ∈ l := by
 unfold rd_T101
 rw [Int.toNat_natCast, List.getD_eq_getElem?_getD, List.getElem?_eq_getElem h]
 exact List.getElem_mem h
theorem take_rw (l : List RwT) (k : Nat) (h : k < l.length) : (l.take (k + 1)).map rowT = (l.take k).map rowT ++ [rowT (rd_T101 l k)] := by
 rw [List.take_succ_eq_append_getElem h, List.map_append]
 unfold rd_T101
 rw [Int.toNat_natCast, List.getD_eq_getElem?_getD, List.getElem?_eq_getElem h]
 rfl
theorem infoSlot : (Tryd.prog.info? 32).map (fun i => (i.zero, i.size, i.bytes)) = some (some (.agg #[(.int .i64 0), (.string ⟨#[]⟩), (.bool false), (.string ⟨#[]⟩), (.slice none 0 0), (.int .i64 0), (.int .i64 0), (.int .i64 0), (.int .i64 0)]), 9, 104) := by kernel_rfl
structure TbAt (w0 W : World) (l : List S32) : Prop where
 h2 : W.heap[w0.heap.size]? = some (.cells #[.slice none 0 0] 36 (0, 0))
 hg : ∃ v, W.heap[w0.heap.size + 1]? = some (.cells #[v] 36 (0, 0)) ∧ Kd.S k32 32 W w0.heap.size (fun _ => True) v l
 bel : Below w0.heap.size w0 W
theorem TbAt.keep {w0 W W1 : World} {l : List S32} (h : TbAt w0 W l) (b : Below W.heap.size W W1) : TbAt w0 W1 l := by
 obtain ⟨v, hv, hs⟩ := h.hg
 exact ⟨blk_below h.h2 b, ⟨v, blk_below hv b, Kd.S_below hs b⟩, below_step h.bel b⟩
theorem TbAt.init (w : World) : TbAt w ((w.alloc (.cells #[.slice none 0 0] 36)).alloc (.cells #[.slice none 0 0] 36)) [] :=
 ⟨blk_alloc (blk_new w _) _, ⟨_, blk_new_at (by simp), ⟨fun _ => 0, Kd.R_nil _ _ _ _ _⟩⟩, by repeat (first | exact Below.refl _ _ | apply below_alloc)⟩
def impl_rows_table.f (l : List RwT) : Option (List S32) := if l.length ≤ 4097 ∧ ∀ s ∈ l, s.f4.length < 4398046511104 then some (l.map rowT) else none
set_option maxHeartbeats 16000000 in
set_option maxRecDepth 100000 in
theorem impl_rows_table.table (g : Nat) (A : Option Addr) (c : Nat) (l : List RwT) (r : List S32) (w : World) (hO : OrdAt w g A c l) (h : impl_rows_table.f l = some r) :
 Calls Tryd.prog 122 #[.pointer (some ⟨g, 0, none⟩)] w fun e w' => ∃ v : Value, e = .returned (.agg #[v]) ∧ Kd.S k32 32 w' w.heap.size (fun _ => True) v r ∧ Below w.heap.size w w' := by
 have hu1 := Tryd.underlying101
 have hu2 := Tryd.underlying32
 have hu3 := Tryd.underlying36
 have hu4 := Tryd.underlying95
 have hu5 := Tryd.underlying97
 have hu6 := Tryd.underlying99
 unfold impl_rows_table.f at h
 by_cases gd : l.length ≤ 4097 ∧ ∀ s ∈ l, s.f4.length < 4398046511104
 case neg => rw [if_neg gd] at h; cases h
 rw [if_pos gd] at h
 obtain rfl := Option.some.inj h
 have G := Aside0.mk gd
 have HO := Aside0.mk hO
 have T0 := Aside0.mk (TbAt.init w)
 have ht0 : ((w.alloc (.cells #[.slice none 0 0] 36)).alloc (.cells #[.slice none 0 0] 36)).cell? ⟨g, 0, none⟩ = some (.slice A l.length c) := pw_cell_below T0.out.bel hO.h0
 clear gd h hO
 go_enter Tryd.func122, Tryd.ntmps122
 go_wp2
 go_loopw [12] (fun i wr => ∃ k : Nat, k ≤ l.length ∧ i = .int .i64 k ∧ Aside0 (TbAt w wr ((l.take k).map rowT))) (fun i _ => l.length - (intOf i).toNat)
 case atStart => exact ⟨0, Nat.zero_le _, rfl, T0⟩
 case round =>
  clear T0 ht0
  obtain ⟨k, hk, rfl, HA⟩ := hrel
  by_cases hlt : k < l.length
  ·
   have p0 : 0 ≤ (k : Int) := by omega
   have q0 : (k : Int) < (l.length : Int) := by omega
   have ql : decide (k < l.length) = true := decide_eq_true hlt
   obtain ⟨ad, A6, c6, eA, hx0, hx1, hx2, hx3, hx4, hx5, hx6, hx7, hx8, hc6, hC6⟩ := at_T101 HO.out.hr k p0 q0
   cases eA
   rw [Int.toNat_natCast] at hx0 hx1 hx2 hx3 hx4 hx5 hx6 hx7 hx8
   replace hx0 := (HA.out.bel.cell (World.block_lt_of_cell? w _ hx0)).trans hx0
   replace hx1 := (HA.out.bel.cell (World.block_lt_of_cell? w _ hx1)).trans hx1
   replace hx2 := (HA.out.bel.cell (World.block_lt_of_cell? w _ hx2)).trans hx2
   replace hx3 := (HA.out.bel.cell (World.block_lt_of_cell? w _ hx3)).trans hx3
   replace hx4 := (HA.out.bel.cell (World.block_lt_of_cell? w _ hx4)).trans hx4
   replace hx5 := (HA.out.bel.cell (World.block_lt_of_cell? w _ hx5)).trans hx5
   replace hx6 := (HA.out.bel.cell (World.block_lt_of_cell? w _ hx6)).trans hx6
   replace hx7 := (HA.out.bel.cell (World.block_lt_of_cell? w _ hx7)).trans hx7
   replace hx8 := (HA.out.bel.cell (World.block_lt_of_cell? w _ hx8)).trans hx8
   have hg6 : (rd_T101 l (k : Int)).f4.length < 4398046511104 := G.out.2 _ (rd_mem_rw l hlt)
   have HD := Aside0.mk (take_rw l k hlt)
   have HLen := Aside0.mk (show ((l.take k).map rowT).length ≤ 4097 by rw [List.length_map, List.length_take]; have := G.out.1; omega)
   obtain ⟨L, hL⟩ : ∃ L, L = (l.take k).map rowT := ⟨_, rfl⟩
   rw [← hL] at HA HD HLen
   clear hL
   obtain ⟨q, hq⟩ : ∃ q, q = rd_T101 l (k : Int) := ⟨_, rfl⟩
   rw [← hq] at hx0 hx1 hx2 hx3 hx4 hx5 hx6 hx7 hx8 hC6 hc6 hg6 HD
   clear hq
   have HC6 := Aside0.mk hC6
   have HG6 := Aside0.mk hg6
   have Hc6 := Aside0.mk hc6
   clear hC6 hg6 hc6
   have HF := Aside0.mk (show impl_row_slot.f q.f0.f0.f0 q.f0.f0.f1 q.f0.f1 q.f1 q.f2 q.f3 q.f4 q.f5 q.f6 = some (q.f0.f0.f0, q.f0.f0.f1, q.f2, q.f3, q.f4, q.f5, q.f6, q.f1, q.f0.f1) by unfold impl_row_slot.f slices_Clone_impl_Key_impl_Key.f; rw [if_pos HG6.out]; rfl)
   go_wp2
   obtain ⟨W2, hW2⟩ : ∃ W2 : World, W2 = wr.alloc (.cells #[.int .i64 q.f0.f0.f0, .string q.f0.f0.f1, .int .i64 q.f0.f1, .int .i64 q.f1, .bool q.f2, .string q.f3, .slice A6 q.f4.length c6, .int .i64 q.f5, .int .i64 q.f6] 101) := ⟨_, rfl⟩
   rw [← hW2]
   have hb2 : Below wr.heap.size wr W2 := by rw [hW2]; exact below_alloc (Below.refl _ _) _
   have hx9 : W2.heap[wr.heap.size]? = some (.cells #[.int .i64 q.f0.f0.f0, .string q.f0.f0.f1, .int .i64 q.f0.f1, .int .i64 q.f1, .bool q.f2, .string q.f3, .slice A6 q.f4.length c6, .int .i64 q.f5, .int .i64 q.f6] 101 (0, 0)) := by rw [hW2]; exact blk_new _ _
   clear hW2
   have HA2 := Aside0.mk (HA.out.keep hb2)
   have HC2 := Aside0.mk (Kd.C_below HC6.out (below_step HA.out.bel hb2))
   have HX9 := Aside0.mk hx9
   clear hx9 hb2 hx0 hx1 hx2 hx3 hx4 hx5 hx6 hx7 hx8
   obtain ⟨v, hv, hs2⟩ := HA2.out.hg
   obtain ⟨AT, cT, rfl⟩ := Kd.S_slice hs2
   have HV := Aside0.mk hv
   have HS2 := Aside0.mk hs2
   clear hv hs2
   refine start_ (n := 8) (S := fun w' => w'.cell? ⟨w.heap.size + 1, 0, none⟩ = some (.slice AT L.length cT) ∧ w'.cell? ⟨wr.heap.size, 0, none⟩ = some (.int .i64 q.f0.f0.f0) ∧ w'.cell? ⟨wr.heap.size, 1, none⟩ = some (.string q.f0.f0.f1) ∧ w'.cell? ⟨wr.heap.size, 2, none⟩ = some (.int .i64 q.f0.f1) ∧ w'.cell? ⟨wr.heap.size, 3, none⟩ = some (.int .i64 q.f1) ∧ w'.cell? ⟨wr.heap.size, 4, none⟩ = some (.bool q.f2) ∧ w'.cell? ⟨wr.heap.size, 5, none⟩ = some (.string q.f3) ∧ w'.cell? ⟨wr.heap.size, 6, none⟩ = some (.slice A6 q.f4.length c6) ∧ w'.cell? ⟨wr.heap.size, 7, none⟩ = some (.int .i64 q.f5) ∧ w'.cell? ⟨wr.heap.size, 8, none⟩ = some (.int .i64 q.f6)) (ds := [5, 7]) #[false, false, false, false, false, false, false, false] (by kernel_rfl) rfl rfl ⟨(blk_cell HV.out 0).trans rfl, (blk_cell HX9.out 0).trans rfl, (blk_cell HX9.out 1).trans rfl, (blk_cell HX9.out 2).trans rfl, (blk_cell HX9.out 3).trans rfl, (blk_cell HX9.out 4).trans rfl, (blk_cell HX9.out 5).trans rfl, (blk_cell HX9.out 6).trans rfl, (blk_cell HX9.out 7).trans rfl, (blk_cell HX9.out 8).trans rfl⟩ (fun hHeld => ?_)
   refine pureY (i := 0) (N := some 16) (v := ?_) (a' := ?_) #[true, false, false, false, false, false, false, false] rfl rfl (by kernel_rfl) ⟨by rfl, ?_⟩ ?_ ?_
   rotate_left
   · intro w'
     go_simp
     with_reducible rfl
   rotate_left
   · simp only [Act.put, sA_, i64_w, i32_w]
     rfl
   refine takeY (i := 1) (N := some 17) (v := ?_) (a' := ?_) #[true, true, false, false, false, false, false, false] rfl rfl (by kernel_rfl) ⟨by rfl, ?_⟩ hHeld ?_ ?_
   rotate_left
   · rintro w' ⟨s0, s1, s2, s3, s4, s5, s6, s7, s8, s9⟩
     go_simp
     with_reducible rfl
   rotate_left
   · simp only [Act.put, sA_, i64_w, i32_w]
     rfl
   refine takeY (i := 2) (N := some 18) (v := ?_) (a' := ?_) #[true, true, true, false, false, false, false, false] rfl rfl (by kernel_rfl) ⟨by rfl, ?_⟩ hHeld ?_ ?_
   rotate_left
   · rintro w' ⟨s0, s1, s2, s3, s4, s5, s6, s7, s8, s9⟩
     go_simp
     with_reducible rfl
   rotate_left
   · simp only [Act.put, sA_, i64_w, i32_w]
     rfl
   refine one_ (i := 3) (N := some 19) #[true, true, true, true, false, false, false, false] rfl rfl (by kernel_rfl) (by decide) (fun K hK => ?_)
   refine goes_ Tryd.func60 rfl rfl #[.agg #[.int .i64 q.f0.f0.f0, .string q.f0.f0.f1, .int .i64 q.f0.f1, .int .i64 q.f1, .bool q.f2, .string q.f3, .slice A6 q.f4.length c6, .int .i64 q.f5, .int .i64 q.f6]] rfl rfl rfl (by (try simp only [List.map_toArray, List.map_cons, List.map_nil, List.append_toArray, List.append_nil, List.nil_append, List.cons_append]); rfl) ?_
   refine (impl_row_slot.calls q.f0.f0.f0 q.f0.f0.f1 q.f0.f1 q.f1 q.f2 q.f3 A6 c6 q.f4 q.f5 q.f6 _ _ _ _ _ _ _ _ _ _ (Kd.C_drew HC2.out) Hc6.out HF.out).mono ?_
   rintro e w7 ⟨v7, rfl, ho7, hb7⟩
   obtain ⟨A7, c7, rfl⟩ := Kd.R_slice ho7
   refine ⟨_, rfl, ?_⟩
   refine hK.out _ _ ⟨pw_cell_below hb7 hHeld.1, pw_cell_below hb7 hHeld.2.1, pw_cell_below hb7 hHeld.2.2.1, pw_cell_below hb7 hHeld.2.2.2.1, pw_cell_below hb7 hHeld.2.2.2.2.1, pw_cell_below hb7 hHeld.2.2.2.2.2.1, pw_cell_below hb7 hHeld.2.2.2.2.2.2.1, pw_cell_below hb7 hHeld.2.2.2.2.2.2.2.1, pw_cell_below hb7 hHeld.2.2.2.2.2.2.2.2.1, pw_cell_below hb7 hHeld.2.2.2.2.2.2.2.2.2⟩ (fun hHeld => ?_)
   clear hK K
   refine norm_ (a' := ?_) ?_ ?_
   rotate_left
   · show Act.put _ (some 19) _ = _
     simp only [Act.put, sA_, i64_w, i32_w]
     rfl
   have HO7 := Aside0.mk ho7
   have HB7 := Aside0.mk hb7
   have HV7 := Aside0.mk (blk_below (blk_drew HV.out) hb7)
   have H27 := Aside0.mk (blk_below (blk_drew HA2.out.h2) hb7)
   have HS7 := Aside0.mk (Kd.S_elder' (Kd.S_drew HS2.out) (Kd.R_base ho7) hb7)
   have HBB := Aside0.mk (below_step (below_drew1 HA2.out.bel) hb7)
   have HSZ := Aside0.mk (Nat.le_trans (below_size (below_drew1 HA2.out.bel)) (below_size hb7))
   clear hb7 ho7
   refine one_ (i := 4) (N := some 20) #[true, true, true, true, true, false, false, false] rfl rfl (by kernel_rfl) (by decide) (fun K hK => ?_)
   refine value_ (v := .slice (some ⟨w7.heap.size, 0, none⟩) 1 1) (w1 := w7.alloc (.cells #[.int .i64 q.f0.f0.f0, .string q.f0.f0.f1, .bool q.f2, .string q.f3, .slice A7 q.f4.length c7, .int .i64 q.f5, .int .i64 q.f6, .int .i64 q.f1, .int .i64 q.f0.f1] 32)) (by rfl) rfl ?_ ?_
   · go_simp
   refine hK.out _ _ ⟨pw_cell_below (below_alloc (Below.refl _ _) _) hHeld.1, pw_cell_below (below_alloc (Below.refl _ _) _) hHeld.2.1, pw_cell_below (below_alloc (Below.refl _ _) _) hHeld.2.2.1, pw_cell_below (below_alloc (Below.refl _ _) _) hHeld.2.2.2.1, pw_cell_below (below_alloc (Below.refl _ _) _) hHeld.2.2.2.2.1, pw_cell_below (below_alloc (Below.refl _ _) _) hHeld.2.2.2.2.2.1, pw_cell_below (below_alloc (Below.refl _ _) _) hHeld.2.2.2.2.2.2.1, pw_cell_below (below_alloc (Below.refl _ _) _) hHeld.2.2.2.2.2.2.2.1, pw_cell_below (below_alloc (Below.refl _ _) _) hHeld.2.2.2.2.2.2.2.2.1, pw_cell_below (below_alloc (Below.refl _ _) _) hHeld.2.2.2.2.2.2.2.2.2⟩ (fun hHeld => ?_)
   clear hK K
   refine norm_ (a' := ?_) ?_ ?_
   rotate_left
   · show Act.put _ (some 20) _ = _
     simp only [Act.put, sA_, i64_w, i32_w]
     rfl
   refine last_ (i := 5) (N := some 21) #[true, true, true, true, true, true, false, false] rfl rfl (by kernel_rfl) (by decide) (fun K hK => ?_)
   refine Kd.S_append_step k32 (w0 := w) (W := w7) w.heap.size (by rfl) (.tmp 17) (.tmp 20) 34 32 (.agg #[(.int .i64 0), (.string ⟨#[]⟩), (.bool false), (.string ⟨#[]⟩), (.slice none 0 0), (.int .i64 0), (.int .i64 0), (.int .i64 0), (.int .i64 0)]) 104 rfl Tryd.underlying34 infoSlot rfl (by decide) (by omega) (.slice AT L.length cT) L (⟨⟨q.f0.f0.f0, q.f0.f0.f1⟩, q.f2, q.f3, q.f4, q.f5, q.f6, q.f1, q.f0.f1⟩ : S32) [.int .i64 q.f0.f0.f0, .string q.f0.f0.f1, .bool q.f2, .string q.f3, .slice A7 q.f4.length c7, .int .i64 q.f5, .int .i64 q.f6, .int .i64 q.f1, .int .i64 q.f0.f1] (fun _ => True) (fun b => some b = (Value.slice A7 q.f4.length c7).ownBlock) rfl rfl (k32_mkM _ _ _ (⟨⟨q.f0.f0.f0, q.f0.f0.f1⟩, q.f2, q.f3, q.f4, q.f5, q.f6, q.f1, q.f0.f1⟩ : S32) (Kd.R_tight rfl (Kd.R_lower HO7.out (below_size (below_drew1 HA2.out.bel))))) (fun b hb => ⟨trivial, fun e => by have h1 := Kd.S_lt HS2.out b e.symm; have h2 := Kd.R_base HO7.out b hb.symm; exact absurd h1 (Nat.not_lt.2 h2)⟩) (fun _ _ => trivial) (Kd.S_mono HS7.out (fun b hb => ⟨trivial, fun e => hb.2 e⟩)) HBB.out HSZ.out (by have := HLen.out; omega) ?_
   intro v1 w1 hs1 hb1 hg1 _
   refine hK.out _ _ ?_
   clear hK K
   refine norm_ (a' := ?_) ?_ ?_
   rotate_left
   · show Act.put _ (some 21) _ = _
     simp only [Act.put, sA_, i64_w, i32_w]
     rfl
   have hne := Kd.S_ne (Kd.S_mono HS7.out (fun _ _ => trivial) : Kd.S k32 32 w7 w.heap.size (fun _ => True) _ _) HV7.out (by decide)
   have hv1 := blk_grown HV7.out hg1 hne
   have h21 := Aside0.mk (blk_grown H27.out hg1 (Kd.S_ne (Kd.S_mono HS7.out (fun _ _ => trivial) : Kd.S k32 32 w7 w.heap.size (fun _ => True) _ _) H27.out (by decide)))
   obtain ⟨A1, c1, rfl⟩ := Kd.S_slice hs1
   have hcv1 : w1.cell? ⟨w.heap.size + 1, 0, none⟩ = some (.slice AT L.length cT) := (blk_cell hv1 0).trans rfl
   have hfv1 := blk_frozen hv1 0
   have HS1 := Aside0.mk hs1
   have HV1 := Aside0.mk hv1
   have HB1 := Aside0.mk hb1
   clear hs1 hb1 hg1 hne
   refine pureY (i := 6) (N := some 22) (v := ?_) (a' := ?_) #[true, true, true, true, true, true, true, false] rfl rfl (by kernel_rfl) ⟨by rfl, ?_⟩ ?_ ?_
   rotate_left
   · intro w'
     go_simp
     with_reducible rfl
   rotate_left
   · simp only [Act.put, sA_, i64_w, i32_w]
     rfl
   refine last_ (i := 7) (N := none) #[true, true, true, true, true, true, true, true] rfl rfl (by kernel_rfl) (by decide) (fun K hK => ?_)
   refine skip_ (w1 := w1.setCell ⟨w.heap.size + 1, 0, none⟩ (.slice A1 (L ++ [(⟨⟨q.f0.f0.f0, q.f0.f0.f1⟩, q.f2, q.f3, q.f4, q.f5, q.f6, q.f1, q.f0.f1⟩ : S32)]).length c1)) (by rfl) rfl ?_ ?_
   · go_simp
   refine hK.out _ _ ?_
   clear hK K
   refine done_ (by kernel_rfl) ?_
   have HR9 := Aside0.mk (show TbAt w (w1.setCell ⟨w.heap.size + 1, 0, none⟩ (.slice A1 (L.length + 1) c1)) ((l.take (k + 1)).map rowT) by rw [HD.out, show L.length + 1 = (L ++ [(⟨⟨q.f0.f0.f0, q.f0.f0.f1⟩, q.f2, q.f3, q.f4, q.f5, q.f6, q.f1, q.f0.f1⟩ : S32)]).length by simp]; exact ⟨blk_far h21.out (p := ⟨w.heap.size + 1, 0, none⟩) (by show w.heap.size ≠ w.heap.size + 1; omega) _, ⟨_, blk_put HV1.out 0 _ rfl, Kd.S_set HS1.out HV1.out (by decide) 0 _⟩, below_set HB1.out (by show w.heap.size ≤ w.heap.size + 1; omega)⟩)
   clear hcv1 hfv1
   have HWk := Aside0.mk (show wrap64 ((k : Int) + 1) = ((k + 1 : Nat) : Int) by have := G.out.1; unfold wrap64; omega)
   go_wp2
   rw [HWk.out]
   go_roundw
   case rel => exact ⟨k + 1, by omega, rfl, HR9⟩
   case measure => simp [intOf]; omega
  obtain rfl : k = l.length := by omega
  have ql : decide (l.length < l.length) = false := decide_eq_false hlt
  rw [List.take_length] at HA
  obtain ⟨v, hv, hs⟩ := HA.out.hg
  have HV := Aside0.mk hv
  have HSv := Aside0.mk hs
  have hcv : wr.cell? ⟨w.heap.size + 1, 0, none⟩ = some v := (blk_cell hv 0).trans rfl
  have hc2 : wr.cell? ⟨w.heap.size, 0, none⟩ = some (.slice none 0 0) := (blk_cell HA.out.h2 0).trans rfl
  have hf2 := blk_frozen HA.out.h2 0
  clear hlt hk hv hs
  obtain ⟨A1, c1, rfl⟩ := Kd.S_slice HSv.out
  go_wp2
  refine bodyPost_ret (results_cell_row rfl _ _ w.heap.size 36 #[.slice A1 (l.map rowT).length c1] (0, 0) _ rfl (blk_put HA.out.h2 0 _ (by rw [List.length_map]; rfl)) Tryd.underlying36 rfl (by kernel_rfl)) rfl ?_
  exact ⟨_, rfl, Kd.S_set HSv.out HA.out.h2 (by decide) 0 _, below_set HA.out.bel (Nat.le_refl _)⟩
theorem impl_Finish.pred (a0_0 : Int) (a0_1 : ByteArray) (w : World) (hG : GRes w) :
 Calls Tryd.prog 87 #[.agg #[.int .i64 a0_0, .string a0_1]] w fun e w' => e = .returned (.bool (!kyB ⟨a0_0, a0_1⟩)) ∧ Below w.heap.size w w' := by
 have hu := Tryd.underlying29
 have HG := Aside0.mk (hG.alloc (.cells #[.int .i64 a0_0, .string a0_1] 29))
 have HF := Aside0.mk (keyValid_f ⟨a0_0, a0_1⟩)
 clear hG
 go_enter Tryd.func87, Tryd.ntmps87
 go_wp2_with (go_at_call 70; (refine (impl_Key_valid.calls _ _ _ _ (by exact HG.out) HF.out).mono ?_); rintro e w' ⟨rfl, hb⟩)
 go_ret
 exact ⟨rfl, below_then ((Below.refl _ _).alloc (Nat.le_refl _) _) (by simp) hb⟩
set_option maxHeartbeats 4000000 in
theorem impl_Finish.idx (A0 : Option Addr) (c0 : Nat) (l0 : List S29) (w : World) (hG : GRes w) (hr0 : Kd.C k29 w A0 l0.length l0) :
 Calls Tryd.prog 127 #[.slice A0 l0.length c0, .func (.func 87) #[] #[]] w fun e w' => e = .returned (.int .i64 (idxKy l0 0)) ∧ Below w.heap.size w w' := by
 have hu := Tryd.underlying29
 have HG := Aside0.mk hG
 have HR0 := Aside0.mk hr0
 have hn := hr0.2.1
 clear hr0 hG
 go_enter Tryd.func127, Tryd.ntmps127
 go_wp2
 go_loopw [8] (fun i wr => ∃ k : Nat, k ≤ l0.length ∧ i = .int .i64 k ∧ Aside0 (idxKy (l0.drop k) k = idxKy l0 0) ∧ Aside0 (Below w.heap.size w wr)) (fun i _ => l0.length - (intOf i).toNat)
 case atStart => exact ⟨0, Nat.zero_le _, rfl, ⟨rfl⟩, ⟨Below.refl _ _⟩⟩
 case round =>
  obtain ⟨k, hk, rfl, HV, HB⟩ := hrel
  by_cases hlt : k < l0.length
  ·
   have p102 : 0 ≤ (k : Int) := by omega
   have q102 : (k : Int) < (l0.length : Int) := by omega
   obtain ⟨ad, e102, hx0, hx1⟩ := at_T29 HR0.out k p102 q102
   cases e102
   replace hx0 := bcl HB hx0
   replace hx1 := bcl HB hx1
   rw [Int.toNat_natCast] at hx0 hx1
   have HD := Aside0.mk (drop_ky l0 k hlt)
   obtain ⟨s, hs⟩ : ∃ s, s = rd_T29 l0 k := ⟨_, rfl⟩
   rw [← hs] at hx0 hx1
   have HS := Lib.hid hs
   clear hs
   have ql : decide (k < l0.length) = true := decide_eq_true hlt
   have hv := HV.out
   rw [HD.out, ← HS.out, idxKy_cons] at hv
   have HG1 := Aside0.mk (GRes.below HG.out HB.out)
   cases hc : kyB s
   case false =>
    rw [if_pos hc] at hv
    have HE := Aside0.mk hv
    have HP := Aside0.mk (show (!kyB ⟨s.f0, s.f1⟩) = true by rw [show (⟨s.f0, s.f1⟩ : S29) = s from rfl, hc]; rfl)
    clear hv hc
    go_wp2_with (go_at_call 87; (refine (impl_Finish.pred _ _ _ (by exact HG1.out)).mono ?_); rintro e w' ⟨rfl, hb⟩; rw [HP.out]; have HB1 := Aside0.mk (below_then HB.out HB.out.size hb); clear hb)
    go_ret
    exact ⟨by simp [← HE.out], HB1.out⟩
   case true =>
    rw [hc, if_neg (by simp)] at hv
    have HE := Aside0.mk hv
    have HP := Aside0.mk (show (!kyB ⟨s.f0, s.f1⟩) = false by rw [show (⟨s.f0, s.f1⟩ : S29) = s from rfl, hc]; rfl)
    clear hv hc
    go_wp2_with (go_at_call 87; (refine (impl_Finish.pred _ _ _ (by exact HG1.out)).mono ?_); rintro e w' ⟨rfl, hb⟩; rw [HP.out]; have HB1 := Aside0.mk (below_then HB.out HB.out.size hb); clear hb)
    go_roundw
    case rel => exact ⟨k + 1, by omega, by go_num, HE, HB1⟩
    case measure => simp [intOf]; omega
  obtain rfl : k = l0.length := by omega
  have HE := Aside0.mk (show idxKy l0 0 = -1 by rw [← HV.out, List.drop_length]; rfl)
  have ql : decide (l0.length < l0.length) = false := decide_eq_false hlt
  clear hlt hk
  go_wp2
  go_ret
  exact ⟨by simp [HE.out], HB.out⟩
def impl_Finish.anyF (l0 : List S29) : Option Bool := some (l0.any fun x => !kyB x)
set_option maxHeartbeats 4000000 in
theorem impl_Finish.bad (A0 : Option Addr) (c0 : Nat) (l0 : List S29) (r : Bool) (w : World) (hG : GRes w) (hr0 : Kd.C k29 w A0 l0.length l0) (hc0 : l0.length ≤ c0) (h : impl_Finish.anyF l0 = some r) :
 Calls Tryd.prog 86 #[.slice A0 l0.length c0, .func (.func 87) #[] #[]] w fun e w' => e = .returned (.bool r) ∧ Below w.heap.size w w' := by
 obtain rfl := Option.some.inj h
 have HI := Aside0.mk (impl_Finish.idx A0 c0 l0 w hG hr0)
 have hA := idxKy_any l0 0
 obtain ⟨x, hx⟩ : ∃ x, x = idxKy l0 0 := ⟨_, rfl⟩
 rw [← hx] at hA
 have HX := Aside0.mk hx
 clear hx h hG hr0
 have HA := Aside0.mk hA
 clear hA
 go_enter Tryd.func86, Tryd.ntmps86
 go_wp2_with (go_at_call 127; refine HI.out.mono ?_; rintro e w' ⟨rfl, hb⟩; rw [← HX.out])
 go_ret
 exact ⟨by simp [← HA.out], hb⟩
structure impl_Finish.Bx (w0 W : World) (A0 : Option Addr) (n0 c0 : Nat) : Prop where
 h0 : W.heap[w0.heap.size]? = some (.cells #[.slice A0 n0 c0] 36 (0, 0))
 h1 : W.heap[w0.heap.size + 1]? = some (.cells #[.slice none 0 0] 36 (0, 0))
 bel : Below w0.heap.size w0 W
theorem impl_Finish.Bx.keep {w0 W W1 : World} {A0 : Option Addr} {n0 c0 : Nat} (h : impl_Finish.Bx w0 W A0 n0 c0) (b : Below W.heap.size W W1) : impl_Finish.Bx w0 W1 A0 n0 c0 := ⟨blk_below h.h0 b, blk_below h.h1 b, below_step h.bel b⟩
theorem impl_Finish.Bx.init (w : World) (A0 : Option Addr) (n0 c0 : Nat) : impl_Finish.Bx w ((w.alloc (.cells #[.slice A0 n0 c0] 36)).alloc (.cells #[.slice none 0 0] 36)) A0 n0 c0 := ⟨blk_alloc (blk_new w _) _, blk_new_at (by simp), by repeat (first | exact Below.refl _ _ | apply below_alloc)⟩
set_option maxHeartbeats 4000000 in
set_option maxRecDepth 100000 in
theorem impl_Finish.clo (k g : Nat) (L : List RwT) (b0 : Int) (b1 : ByteArray) (wk rev : Int) (val : ByteArray) (ds : List S29) (c : Int) (L' : List RwT) (gk gw gr gv gd : Nat) (w0 w : World) (hR : RowsAt w0 w g L) {Ad : Option Addr} {cd : Nat} (hd : Kd.C k29 w0 Ad ds.length ds) (hcd : ds.length ≤ cd) (hg0 : w.cell? ⟨gk, 0, none⟩ = some (.int .i64 b0)) (hg1 : w.cell? ⟨gk, 1, none⟩ = some (.string b1)) (hg2 : w.cell? ⟨gw, 0, none⟩ = some (.int .i64 wk)) (hg3 : w.cell? ⟨gr, 0, none⟩ = some (.int .i64 rev)) (hg4 : w.cell? ⟨gv, 0, none⟩ = some (.string val)) (hg5 : w.cell? ⟨gd, 0, none⟩ = some (.slice Ad ds.length cd)) (h : impl_rows_finish.f k L b0 b1 wk rev val ds = some (c, L')) :
 Calls Tryd.prog 88 #[.pointer (some ⟨g, 0, none⟩), .pointer (some ⟨gk, 0, none⟩), .pointer (some ⟨gw, 0, none⟩), .pointer (some ⟨gr, 0, none⟩), .pointer (some ⟨gv, 0, none⟩), .pointer (some ⟨gd, 0, none⟩)] w fun e w' => e = .returned (.int .i64 c) ∧ RowsAt w0 w' g L' := by
 have hu1 := Tryd.underlying101
 have hu2 := Tryd.underlying29
 have hu3 := Tryd.underlying32
 have hu4 := Tryd.underlying36
 have hu5 := Tryd.underlying97
 have HR := Aside0.mk hR
 have HD := Aside0.mk hd
 have HCD := Aside0.mk hcd
 have H := Aside0.mk h
 clear hR h hd hcd
 go_enter Tryd.func88, Tryd.ntmps88
 go_wp2_with (go_at_call 89; refine (impl_rows_finish.finish k g L b0 b1 wk rev val ds Ad cd c L' w0 _ HR.out HD.out HCD.out H.out).mono ?_; rintro e w6 ⟨rfl, hr⟩; have HR6 := Aside0.mk hr; clear hr)
 go_ret
 exact ⟨rfl, HR6.out⟩
def impl_Finish.ch (k : Nat) (l0 : List S32) (ok : Bool) (b0 : Int) (b1 : ByteArray) (wk rev : Int) (val : ByteArray) (ds : List S29) : Option (List S32 × Int) := if ok = true then (impl_ValidTable.f k l0).bind fun t => (if t = true then (impl_Table_rows.f l0).bind fun L => (impl_rows_finish.f k L b0 b1 wk rev val ds).bind fun p => (impl_rows_table.f p.2).bind fun r => some (r, p.1) else some ([], 9)) else some ([], 9)
set_option maxHeartbeats 16000000 in
set_option maxRecDepth 100000 in
theorem impl_Finish.changed (k : Nat) (A0 : Option Addr) (c0 : Nat) (l0 : List S32) (ok : Bool) (b0 : Int) (b1 : ByteArray) (wk rev : Int) (val : ByteArray) (ds : List S29) (r : List S32) (c : Int) (gk gw gr gv gd : Nat) (w : World) (hG : GRes w) (hr0 : Kd.C k32 w A0 l0.length l0) (hc0 : l0.length ≤ c0) {Ad : Option Addr} {cd : Nat} (hd : Kd.C k29 w Ad ds.length ds) (hcd : ds.length ≤ cd) (hg0 : w.cell? ⟨gk, 0, none⟩ = some (.int .i64 b0)) (hg1 : w.cell? ⟨gk, 1, none⟩ = some (.string b1)) (hg2 : w.cell? ⟨gw, 0, none⟩ = some (.int .i64 wk)) (hg3 : w.cell? ⟨gr, 0, none⟩ = some (.int .i64 rev)) (hg4 : w.cell? ⟨gv, 0, none⟩ = some (.string val)) (hg5 : w.cell? ⟨gd, 0, none⟩ = some (.slice Ad ds.length cd)) (h : impl_Finish.ch k l0 ok b0 b1 wk rev val ds = some (r, c)) :
 Calls Tryd.prog 76 #[.agg #[.slice A0 l0.length c0], .bool ok, .func (.func 88) #[] #[.pointer (some ⟨gk, 0, none⟩), .pointer (some ⟨gw, 0, none⟩), .pointer (some ⟨gr, 0, none⟩), .pointer (some ⟨gv, 0, none⟩), .pointer (some ⟨gd, 0, none⟩)]] w fun e w' => ∃ v : Value, e = .returned (.tuple #[.agg #[v], .int .i64 c]) ∧ Kd.S k32 32 w' w.heap.size (fun _ => True) v r ∧ Below w.heap.size w w' := by
 have hu1 := Tryd.underlying101
 have hu2 := Tryd.underlying29
 have hu3 := Tryd.underlying32
 have hu4 := Tryd.underlying36
 have hu5 := Tryd.underlying97
 unfold impl_Finish.ch at h
 have HG := Aside0.mk hG
 have HR0 := Aside0.mk hr0
 have HC0 := Aside0.mk hc0
 have HD := Aside0.mk hd
 have HCD := Aside0.mk hcd
 have BX0 := Aside0.mk (impl_Finish.Bx.init w A0 l0.length c0)
 have HK_hg0 := Aside0.mk hg0
 have HK_hg1 := Aside0.mk hg1
 have HK_hg2 := Aside0.mk hg2
 have HK_hg3 := Aside0.mk hg3
 have HK_hg4 := Aside0.mk hg4
 have HK_hg5 := Aside0.mk hg5
 clear hG hr0 hc0 hd hcd hg0 hg1 hg2 hg3 hg4 hg5
 cases ok with
 | false =>
  rw [if_neg (by decide)] at h
  simp only [Option.some.injEq, Prod.mk.injEq] at h
  obtain ⟨rfl, rfl⟩ := h
  go_enter Tryd.func76, Tryd.ntmps76
  go_wp2
  refine bodyPost_ret (results_ct rfl _ _ (w.heap.size + 1) 36 #[.slice none 0 0] (0, 0) _ rfl BX0.out.h1 Tryd.underlying36 rfl (by kernel_rfl)) rfl ?_
  exact ⟨.slice none 0 0, rfl, Kd.S_nil _ _ _ _ _, BX0.out.bel⟩
 | true =>
  rw [if_pos rfl] at h
  obtain ⟨t, ht, h⟩ := Option.bind_eq_some_iff.mp h
  have H1 := Aside0.mk ht
  clear ht
  cases t with
  | false =>
   rw [if_neg (by decide)] at h
   simp only [Option.some.injEq, Prod.mk.injEq] at h
   obtain ⟨rfl, rfl⟩ := h
   go_enter Tryd.func76, Tryd.ntmps76
   go_wp2_with (go_at_call 44; refine (impl_ValidTable.calls k A0 c0 l0 _ _ (GRes.below HG.out BX0.out.bel) (Kd.C_below HR0.out BX0.out.bel) HC0.out H1.out).mono ?_; rintro e w6 ⟨rfl, hb6⟩; have BX6 := Aside0.mk (BX0.out.keep hb6); have hz : w6.cell? ⟨w.heap.size + 1, 0, none⟩ = some (.slice none 0 0) := (blk_cell BX6.out.h1 0).trans rfl; have hf := blk_frozen BX6.out.h1 0; clear hb6)
   refine bodyPost_ret (results_ct rfl _ _ (w.heap.size + 1) 36 #[.slice none 0 0] (0, 0) _ rfl (blk_put BX6.out.h1 0 _ rfl) Tryd.underlying36 rfl (by kernel_rfl)) rfl ?_
   exact ⟨.slice none 0 0, rfl, Kd.S_nil _ _ _ _ _, below_set BX6.out.bel (by show w.heap.size ≤ w.heap.size + 1; omega)⟩
  | true =>
   rw [if_pos rfl] at h
   obtain ⟨L, hL, h⟩ := Option.bind_eq_some_iff.mp h
   obtain ⟨⟨c_, L'⟩, hp, h⟩ := Option.bind_eq_some_iff.mp h
   obtain ⟨r_, hr_, h⟩ := Option.bind_eq_some_iff.mp h
   simp only [Option.some.injEq, Prod.mk.injEq] at h
   obtain ⟨rfl, rfl⟩ := h
   have HL := Aside0.mk hL
   have HP := Aside0.mk hp
   have HT := Aside0.mk hr_
   clear hL hp hr_
   go_enter Tryd.func76, Tryd.ntmps76
   go_wp2_with (first | (go_at_call 44; refine (impl_ValidTable.calls k A0 c0 l0 _ _ (GRes.below HG.out BX0.out.bel) (Kd.C_below HR0.out BX0.out.bel) HC0.out H1.out).mono ?_; rintro e w6 ⟨rfl, hb6⟩; have BX6 := Aside0.mk (BX0.out.keep hb6); have ht6 : w6.cell? ⟨w.heap.size, 0, none⟩ = some (.slice A0 l0.length c0) := (blk_cell BX6.out.h0 0).trans rfl; clear hb6) | (go_at_call 58; refine (impl_Table_rows.rows A0 c0 l0 L _ (Kd.C_below HR0.out BX6.out.bel) HL.out).mono ?_; rintro e w7 ⟨g, rfl, hR⟩; have HR7 := Aside0.mk hR; have HB7 := Aside0.mk (below_step BX6.out.bel hR.bel); clear hR ht6) | (go_at_call 88; refine (impl_Finish.clo k g L b0 b1 wk rev val ds c_ L' gk gw gr gv gd w6 _ HR7.out (Kd.C_below HD.out BX6.out.bel) HCD.out (pw_cell_below HB7.out HK_hg0.out) (pw_cell_below HB7.out HK_hg1.out) (pw_cell_below HB7.out HK_hg2.out) (pw_cell_below HB7.out HK_hg3.out) (pw_cell_below HB7.out HK_hg4.out) (pw_cell_below HB7.out HK_hg5.out) HP.out).mono ?_; rintro e w8 ⟨rfl, hR⟩; have HR8 := Aside0.mk hR; clear hR) | (go_at_call 122; obtain ⟨AR, cR, hOr⟩ := HR8.out.ord; refine (impl_rows_table.table g AR cR L' r_ _ hOr HT.out).mono ?_; rintro e w9 ⟨v, rfl, hs, hb9⟩; obtain ⟨A9, c9, rfl⟩ := Kd.S_slice hs; have HS9 := Aside0.mk hs; have BX9 := Aside0.mk ((BX6.out.keep HR8.out.bel).keep hb9); have hz : w9.cell? ⟨w.heap.size + 1, 0, none⟩ = some (.slice none 0 0) := (blk_cell BX9.out.h1 0).trans rfl; have hf := blk_frozen BX9.out.h1 0; have HB8 := Aside0.mk (below_step BX6.out.bel HR8.out.bel); clear hs hb9 hOr))
   refine bodyPost_ret (results_ct rfl _ _ (w.heap.size + 1) 36 #[.slice A9 r_.length c9] (0, 0) _ rfl (blk_put BX9.out.h1 0 _ rfl) Tryd.underlying36 rfl (by kernel_rfl)) rfl ?_
   exact ⟨.slice A9 r_.length c9, rfl, Kd.S_set (Kd.S_lower HS9.out (below_size HB8.out)) BX9.out.h1 (by decide) 0 _, below_set BX9.out.bel (by show w.heap.size ≤ w.heap.size + 1; omega)⟩
structure impl_Finish.Bs (w0 W : World) (A0 : Option Addr) (n0 c0 : Nat) (b0 : Int) (b1 : ByteArray) (wk rev : Int) (val : ByteArray) (Ad : Option Addr) (nd cd : Nat) : Prop where
 h0 : W.heap[w0.heap.size]? = some (.cells #[.slice A0 n0 c0] 36 (0, 0))
 h1 : W.heap[w0.heap.size + 1]? = some (.cells #[.int .i64 b0, .string b1] 29 (0, 0))
 h2 : W.heap[w0.heap.size + 1 + 1]? = some (.cells #[.int .i64 wk] 3 (0, 0))
 h3 : W.heap[w0.heap.size + 1 + 1 + 1]? = some (.cells #[.int .i64 rev] 3 (0, 0))
 h4 : W.heap[w0.heap.size + 1 + 1 + 1 + 1]? = some (.cells #[.string val] 9 (0, 0))
 h5 : W.heap[w0.heap.size + 1 + 1 + 1 + 1 + 1]? = some (.cells #[.slice Ad nd cd] 30 (0, 0))
 h6 : W.heap[w0.heap.size + 1 + 1 + 1 + 1 + 1 + 1]? = some (.cells #[.slice none 0 0] 36 (0, 0))
 bel : Below w0.heap.size w0 W
theorem impl_Finish.Bs.keep {w0 W W1 : World} {A0 : Option Addr} {n0 c0 : Nat} {b0 : Int} {b1 : ByteArray} {wk rev : Int} {val : ByteArray} {Ad : Option Addr} {nd cd : Nat} (h : impl_Finish.Bs w0 W A0 n0 c0 b0 b1 wk rev val Ad nd cd) (b : Below W.heap.size W W1) : impl_Finish.Bs w0 W1 A0 n0 c0 b0 b1 wk rev val Ad nd cd :=
 ⟨blk_below h.h0 b, blk_below h.h1 b, blk_below h.h2 b, blk_below h.h3 b, blk_below h.h4 b, blk_below h.h5 b, blk_below h.h6 b, below_step h.bel b⟩
theorem impl_Finish.Bs.init (w0 : World) (A0 : Option Addr) (n0 c0 : Nat) (b0 : Int) (b1 : ByteArray) (wk rev : Int) (val : ByteArray) (Ad : Option Addr) (nd cd : Nat) : impl_Finish.Bs w0 (((((((w0.alloc (.cells #[.slice A0 n0 c0] 36)).alloc (.cells #[.int .i64 b0, .string b1] 29)).alloc (.cells #[.int .i64 wk] 3)).alloc (.cells #[.int .i64 rev] 3)).alloc (.cells #[.string val] 9)).alloc (.cells #[.slice Ad nd cd] 30)).alloc (.cells #[.slice none 0 0] 36)) A0 n0 c0 b0 b1 wk rev val Ad nd cd :=
 ⟨blk_alloc (blk_alloc (blk_alloc (blk_alloc (blk_alloc (blk_alloc (blk_new w0 _) _) _) _) _) _) _, blk_alloc (blk_alloc (blk_alloc (blk_alloc (blk_alloc (blk_new_at (by simp)) _) _) _) _) _, blk_alloc (blk_alloc (blk_alloc (blk_alloc (blk_new_at (by simp)) _) _) _) _, blk_alloc (blk_alloc (blk_alloc (blk_new_at (by simp)) _) _) _, blk_alloc (blk_alloc (blk_new_at (by simp)) _) _, blk_alloc (blk_new_at (by simp)) _, blk_new_at (by simp), by repeat (first | exact Below.refl _ _ | apply below_alloc)⟩
def impl_Finish.f (k : Nat) (l0 : List S32) (b0 : Int) (b1 : ByteArray) (wk rev : Int) (val : ByteArray) (ds : List S29) : Option (List S32 × Int) := (impl_Key_valid.f b0 b1).bind fun t1 => (impl_workerOk.f wk).bind fun t2 => impl_Finish.ch k l0 ((((t1 && t2) && decide (1 ≤ rev)) && decide (ds.length ≤ 1000)) && !(ds.any fun x => !kyB x)) b0 b1 wk rev val ds
set_option maxHeartbeats 16000000 in
set_option maxRecDepth 100000 in
theorem impl_Finish.calls (k : Nat) (A0_0 : Option Addr) (c0_0 : Nat) (l0_0 : List S32) (a1_0 : Int) (a1_1 : ByteArray) (a2 a3 : Int) (a4 : ByteArray) (A5 : Option Addr) (c5 : Nat) (l5 : List S29) (r : List S32) (c : Int) (w : World) (hG : GRes w) (hr0_0 : Kd.C k32 w A0_0 l0_0.length l0_0) (hc0_0 : l0_0.length ≤ c0_0) (hr5 : Kd.C k29 w A5 l5.length l5) (hc5 : l5.length ≤ c5) (h : impl_Finish.f k l0_0 a1_0 a1_1 a2 a3 a4 l5 = some (r, c)) :
 Calls Tryd.prog 37 #[.agg #[.slice A0_0 l0_0.length c0_0], .agg #[.int .i64 a1_0, .string a1_1], .int .i64 a2, .int .i64 a3, .string a4, .slice A5 l5.length c5] w fun e w' => ∃ v : Value, e = .returned (.tuple #[.agg #[v], .int .i64 c]) ∧ Kd.S k32 32 w' w.heap.size (fun _ => True) v r ∧ Below w.heap.size w w' := by
 have hu1 := Tryd.underlying101
 have hu2 := Tryd.underlying29
 have hu3 := Tryd.underlying32
 have hu4 := Tryd.underlying36
 have hu5 := Tryd.underlying97
 have hu6 := Tryd.underlying30
 have hmf : ∀ (fn : Fn) (first cap : Array Value) (w : World), (Instr.makeFunc fn first cap).run Tryd.prog w = .ok (.func fn first cap) w := fun _ _ _ _ => rfl
 unfold impl_Finish.f at h
 obtain ⟨t1, ht1, h⟩ := Option.bind_eq_some_iff.mp h
 obtain ⟨t2, ht2, h⟩ := Option.bind_eq_some_iff.mp h
 have HG := Aside0.mk hG
 have HR0 := Aside0.mk hr0_0
 have HC0 := Aside0.mk hc0_0
 have HD := Aside0.mk hr5
 have HCD := Aside0.mk hc5
 have H1 := Aside0.mk ht1
 have H2 := Aside0.mk ht2
 have BX0 := Aside0.mk (impl_Finish.Bs.init w A0_0 l0_0.length c0_0 a1_0 a1_1 a2 a3 a4 A5 l5.length c5)
 clear hG hr0_0 hc0_0 hr5 hc5 ht1 ht2
 cases t1 with
 | false =>
  have H := Aside0.mk (show impl_Finish.ch k l0_0 false a1_0 a1_1 a2 a3 a4 l5 = some (r, c) from by simpa using h)
  clear h
  go_enter Tryd.func37, Tryd.ntmps37
  go_wp2_with (first | (go_at_call 70; refine (impl_Key_valid.calls a1_0 a1_1 _ _ (GRes.below HG.out BX0.out.bel) H1.out).mono ?_; rintro e w6 ⟨rfl, hb⟩; have BX6 := Aside0.mk (BX0.out.keep hb); have q0 : w6.cell? ⟨w.heap.size, 0, none⟩ = some (.slice A0_0 l0_0.length c0_0) := (blk_cell BX6.out.h0 0).trans rfl; have q2 : w6.cell? ⟨w.heap.size + 1 + 1, 0, none⟩ = some (.int .i64 a2) := (blk_cell BX6.out.h2 0).trans rfl; have q3 : w6.cell? ⟨w.heap.size + 1 + 1 + 1, 0, none⟩ = some (.int .i64 a3) := (blk_cell BX6.out.h3 0).trans rfl; have q5 : w6.cell? ⟨w.heap.size + 1 + 1 + 1 + 1 + 1, 0, none⟩ = some (.slice A5 l5.length c5) := (blk_cell BX6.out.h5 0).trans rfl; clear hb) | (go_at_call 76; refine (impl_Finish.changed k A0_0 c0_0 l0_0 _ a1_0 a1_1 a2 a3 a4 l5 r c (w.heap.size + 1) (w.heap.size + 1 + 1) (w.heap.size + 1 + 1 + 1) (w.heap.size + 1 + 1 + 1 + 1) (w.heap.size + 1 + 1 + 1 + 1 + 1) _ (GRes.below HG.out BX6.out.bel) (Kd.C_below HR0.out BX6.out.bel) HC0.out (Kd.C_below HD.out BX6.out.bel) HCD.out ((blk_cell BX6.out.h1 0).trans rfl) ((blk_cell BX6.out.h1 1).trans rfl) ((blk_cell BX6.out.h2 0).trans rfl) ((blk_cell BX6.out.h3 0).trans rfl) ((blk_cell BX6.out.h4 0).trans rfl) ((blk_cell BX6.out.h5 0).trans rfl) H.out).mono ?_; rintro e w9 ⟨v, rfl, hs, hb⟩; obtain ⟨A9, c9, rfl⟩ := Kd.S_slice hs; have HS9 := Aside0.mk (Kd.S_lower hs (below_size BX6.out.bel)); have BX9 := Aside0.mk (BX6.out.keep hb); have hz : w9.cell? ⟨w.heap.size + 1 + 1 + 1 + 1 + 1 + 1, 0, none⟩ = some (.slice none 0 0) := (blk_cell BX9.out.h6 0).trans rfl; have hf := blk_frozen BX9.out.h6 0; clear hs hb q0 q2 q3 q5))
  refine bodyPost_ret (results_ct rfl _ _ (w.heap.size + 1 + 1 + 1 + 1 + 1 + 1) 36 #[.slice A9 r.length c9] (0, 0) _ rfl (blk_put BX9.out.h6 0 _ rfl) Tryd.underlying36 rfl (by kernel_rfl)) rfl ?_
  exact ⟨.slice A9 r.length c9, rfl, Kd.S_set HS9.out BX9.out.h6 (by decide) 0 _, below_set BX9.out.bel (by show w.heap.size ≤ w.heap.size + 1 + 1 + 1 + 1 + 1 + 1; omega)⟩
 | true =>
  cases t2 with
  | false =>
   have H := Aside0.mk (show impl_Finish.ch k l0_0 false a1_0 a1_1 a2 a3 a4 l5 = some (r, c) from by simpa using h)
   clear h
   go_enter Tryd.func37, Tryd.ntmps37
   go_wp2_with (first | (go_at_call 70; refine (impl_Key_valid.calls a1_0 a1_1 _ _ (GRes.below HG.out BX0.out.bel) H1.out).mono ?_; rintro e w6 ⟨rfl, hb⟩; have BX6 := Aside0.mk (BX0.out.keep hb); have q0 : w6.cell? ⟨w.heap.size, 0, none⟩ = some (.slice A0_0 l0_0.length c0_0) := (blk_cell BX6.out.h0 0).trans rfl; have q2 : w6.cell? ⟨w.heap.size + 1 + 1, 0, none⟩ = some (.int .i64 a2) := (blk_cell BX6.out.h2 0).trans rfl; have q3 : w6.cell? ⟨w.heap.size + 1 + 1 + 1, 0, none⟩ = some (.int .i64 a3) := (blk_cell BX6.out.h3 0).trans rfl; have q5 : w6.cell? ⟨w.heap.size + 1 + 1 + 1 + 1 + 1, 0, none⟩ = some (.slice A5 l5.length c5) := (blk_cell BX6.out.h5 0).trans rfl; clear hb) | (go_at_call 71; refine (impl_workerOk.calls a2 _ _ H2.out).mono ?_; rintro e w7 ⟨rfl, hd⟩; have BX7 := Aside0.mk (show impl_Finish.Bs w w7 A0_0 l0_0.length c0_0 a1_0 a1_1 a2 a3 a4 A5 l5.length c5 by obtain ⟨nd, rfl⟩ := hd; exact BX6.out.keep (pw_below_drewN (Below.refl _ _) nd)); clear q0 q2 q3 q5; have q0 : w7.cell? ⟨w.heap.size, 0, none⟩ = some (.slice A0_0 l0_0.length c0_0) := (blk_cell BX7.out.h0 0).trans rfl; have q2 : w7.cell? ⟨w.heap.size + 1 + 1, 0, none⟩ = some (.int .i64 a2) := (blk_cell BX7.out.h2 0).trans rfl; have q3 : w7.cell? ⟨w.heap.size + 1 + 1 + 1, 0, none⟩ = some (.int .i64 a3) := (blk_cell BX7.out.h3 0).trans rfl; have q5 : w7.cell? ⟨w.heap.size + 1 + 1 + 1 + 1 + 1, 0, none⟩ = some (.slice A5 l5.length c5) := (blk_cell BX7.out.h5 0).trans rfl; clear hd) | (go_at_call 76; refine (impl_Finish.changed k A0_0 c0_0 l0_0 _ a1_0 a1_1 a2 a3 a4 l5 r c (w.heap.size + 1) (w.heap.size + 1 + 1) (w.heap.size + 1 + 1 + 1) (w.heap.size + 1 + 1 + 1 + 1) (w.heap.size + 1 + 1 + 1 + 1 + 1) _ (GRes.below HG.out BX7.out.bel) (Kd.C_below HR0.out BX7.out.bel) HC0.out (Kd.C_below HD.out BX7.out.bel) HCD.out ((blk_cell BX7.out.h1 0).trans rfl) ((blk_cell BX7.out.h1 1).trans rfl) ((blk_cell BX7.out.h2 0).trans rfl) ((blk_cell BX7.out.h3 0).trans rfl) ((blk_cell BX7.out.h4 0).trans rfl) ((blk_cell BX7.out.h5 0).trans rfl) H.out).mono ?_; rintro e w9 ⟨v, rfl, hs, hb⟩; obtain ⟨A9, c9, rfl⟩ := Kd.S_slice hs; have HS9 := Aside0.mk (Kd.S_lower hs (below_size BX7.out.bel)); have BX9 := Aside0.mk (BX7.out.keep hb); have hz : w9.cell? ⟨w.heap.size + 1 + 1 + 1 + 1 + 1 + 1, 0, none⟩ = some (.slice none 0 0) := (blk_cell BX9.out.h6 0).trans rfl; have hf := blk_frozen BX9.out.h6 0; clear hs hb q0 q2 q3 q5))
   refine bodyPost_ret (results_ct rfl _ _ (w.heap.size + 1 + 1 + 1 + 1 + 1 + 1) 36 #[.slice A9 r.length c9] (0, 0) _ rfl (blk_put BX9.out.h6 0 _ rfl) Tryd.underlying36 rfl (by kernel_rfl)) rfl ?_
   exact ⟨.slice A9 r.length c9, rfl, Kd.S_set HS9.out BX9.out.h6 (by decide) 0 _, below_set BX9.out.bel (by show w.heap.size ≤ w.heap.size + 1 + 1 + 1 + 1 + 1 + 1; omega)⟩
  | true =>
   by_cases c3 : 1 ≤ a3
   case neg =>
    have c3b : decide (1 ≤ a3) = false := decide_eq_false c3
    rw [c3b] at h
    clear c3
    have H := Aside0.mk (show impl_Finish.ch k l0_0 false a1_0 a1_1 a2 a3 a4 l5 = some (r, c) from by simpa using h)
    clear h
    go_enter Tryd.func37, Tryd.ntmps37
    go_wp2_with (first | (go_at_call 70; refine (impl_Key_valid.calls a1_0 a1_1 _ _ (GRes.below HG.out BX0.out.bel) H1.out).mono ?_; rintro e w6 ⟨rfl, hb⟩; have BX6 := Aside0.mk (BX0.out.keep hb); have q0 : w6.cell? ⟨w.heap.size, 0, none⟩ = some (.slice A0_0 l0_0.length c0_0) := (blk_cell BX6.out.h0 0).trans rfl; have q2 : w6.cell? ⟨w.heap.size + 1 + 1, 0, none⟩ = some (.int .i64 a2) := (blk_cell BX6.out.h2 0).trans rfl; have q3 : w6.cell? ⟨w.heap.size + 1 + 1 + 1, 0, none⟩ = some (.int .i64 a3) := (blk_cell BX6.out.h3 0).trans rfl; have q5 : w6.cell? ⟨w.heap.size + 1 + 1 + 1 + 1 + 1, 0, none⟩ = some (.slice A5 l5.length c5) := (blk_cell BX6.out.h5 0).trans rfl; clear hb) | (go_at_call 71; refine (impl_workerOk.calls a2 _ _ H2.out).mono ?_; rintro e w7 ⟨rfl, hd⟩; have BX7 := Aside0.mk (show impl_Finish.Bs w w7 A0_0 l0_0.length c0_0 a1_0 a1_1 a2 a3 a4 A5 l5.length c5 by obtain ⟨nd, rfl⟩ := hd; exact BX6.out.keep (pw_below_drewN (Below.refl _ _) nd)); clear q0 q2 q3 q5; have q0 : w7.cell? ⟨w.heap.size, 0, none⟩ = some (.slice A0_0 l0_0.length c0_0) := (blk_cell BX7.out.h0 0).trans rfl; have q2 : w7.cell? ⟨w.heap.size + 1 + 1, 0, none⟩ = some (.int .i64 a2) := (blk_cell BX7.out.h2 0).trans rfl; have q3 : w7.cell? ⟨w.heap.size + 1 + 1 + 1, 0, none⟩ = some (.int .i64 a3) := (blk_cell BX7.out.h3 0).trans rfl; have q5 : w7.cell? ⟨w.heap.size + 1 + 1 + 1 + 1 + 1, 0, none⟩ = some (.slice A5 l5.length c5) := (blk_cell BX7.out.h5 0).trans rfl; clear hd) | (go_at_call 76; refine (impl_Finish.changed k A0_0 c0_0 l0_0 _ a1_0 a1_1 a2 a3 a4 l5 r c (w.heap.size + 1) (w.heap.size + 1 + 1) (w.heap.size + 1 + 1 + 1) (w.heap.size + 1 + 1 + 1 + 1) (w.heap.size + 1 + 1 + 1 + 1 + 1) _ (GRes.below HG.out BX7.out.bel) (Kd.C_below HR0.out BX7.out.bel) HC0.out (Kd.C_below HD.out BX7.out.bel) HCD.out ((blk_cell BX7.out.h1 0).trans rfl) ((blk_cell BX7.out.h1 1).trans rfl) ((blk_cell BX7.out.h2 0).trans rfl) ((blk_cell BX7.out.h3 0).trans rfl) ((blk_cell BX7.out.h4 0).trans rfl) ((blk_cell BX7.out.h5 0).trans rfl) H.out).mono ?_; rintro e w9 ⟨v, rfl, hs, hb⟩; obtain ⟨A9, c9, rfl⟩ := Kd.S_slice hs; have HS9 := Aside0.mk (Kd.S_lower hs (below_size BX7.out.bel)); have BX9 := Aside0.mk (BX7.out.keep hb); have hz : w9.cell? ⟨w.heap.size + 1 + 1 + 1 + 1 + 1 + 1, 0, none⟩ = some (.slice none 0 0) := (blk_cell BX9.out.h6 0).trans rfl; have hf := blk_frozen BX9.out.h6 0; clear hs hb q0 q2 q3 q5))
    refine bodyPost_ret (results_ct rfl _ _ (w.heap.size + 1 + 1 + 1 + 1 + 1 + 1) 36 #[.slice A9 r.length c9] (0, 0) _ rfl (blk_put BX9.out.h6 0 _ rfl) Tryd.underlying36 rfl (by kernel_rfl)) rfl ?_
    exact ⟨.slice A9 r.length c9, rfl, Kd.S_set HS9.out BX9.out.h6 (by decide) 0 _, below_set BX9.out.bel (by show w.heap.size ≤ w.heap.size + 1 + 1 + 1 + 1 + 1 + 1; omega)⟩
   have c3b : decide (1 ≤ a3) = true := decide_eq_true c3
   rw [c3b] at h
   clear c3
   by_cases c4 : l5.length ≤ 1000
   case neg =>
    rw [show decide (l5.length ≤ 1000) = false from decide_eq_false c4] at h
    have c4b : decide ((l5.length : Int) ≤ 1000) = false := decide_eq_false (by omega)
    clear c4
    have H := Aside0.mk (show impl_Finish.ch k l0_0 false a1_0 a1_1 a2 a3 a4 l5 = some (r, c) from by simpa using h)
    clear h
    go_enter Tryd.func37, Tryd.ntmps37
    go_wp2_with (first | (go_at_call 70; refine (impl_Key_valid.calls a1_0 a1_1 _ _ (GRes.below HG.out BX0.out.bel) H1.out).mono ?_; rintro e w6 ⟨rfl, hb⟩; have BX6 := Aside0.mk (BX0.out.keep hb); have q0 : w6.cell? ⟨w.heap.size, 0, none⟩ = some (.slice A0_0 l0_0.length c0_0) := (blk_cell BX6.out.h0 0).trans rfl; have q2 : w6.cell? ⟨w.heap.size + 1 + 1, 0, none⟩ = some (.int .i64 a2) := (blk_cell BX6.out.h2 0).trans rfl; have q3 : w6.cell? ⟨w.heap.size + 1 + 1 + 1, 0, none⟩ = some (.int .i64 a3) := (blk_cell BX6.out.h3 0).trans rfl; have q5 : w6.cell? ⟨w.heap.size + 1 + 1 + 1 + 1 + 1, 0, none⟩ = some (.slice A5 l5.length c5) := (blk_cell BX6.out.h5 0).trans rfl; clear hb) | (go_at_call 71; refine (impl_workerOk.calls a2 _ _ H2.out).mono ?_; rintro e w7 ⟨rfl, hd⟩; have BX7 := Aside0.mk (show impl_Finish.Bs w w7 A0_0 l0_0.length c0_0 a1_0 a1_1 a2 a3 a4 A5 l5.length c5 by obtain ⟨nd, rfl⟩ := hd; exact BX6.out.keep (pw_below_drewN (Below.refl _ _) nd)); clear q0 q2 q3 q5; have q0 : w7.cell? ⟨w.heap.size, 0, none⟩ = some (.slice A0_0 l0_0.length c0_0) := (blk_cell BX7.out.h0 0).trans rfl; have q2 : w7.cell? ⟨w.heap.size + 1 + 1, 0, none⟩ = some (.int .i64 a2) := (blk_cell BX7.out.h2 0).trans rfl; have q3 : w7.cell? ⟨w.heap.size + 1 + 1 + 1, 0, none⟩ = some (.int .i64 a3) := (blk_cell BX7.out.h3 0).trans rfl; have q5 : w7.cell? ⟨w.heap.size + 1 + 1 + 1 + 1 + 1, 0, none⟩ = some (.slice A5 l5.length c5) := (blk_cell BX7.out.h5 0).trans rfl; clear hd) | (go_at_call 76; refine (impl_Finish.changed k A0_0 c0_0 l0_0 _ a1_0 a1_1 a2 a3 a4 l5 r c (w.heap.size + 1) (w.heap.size + 1 + 1) (w.heap.size + 1 + 1 + 1) (w.heap.size + 1 + 1 + 1 + 1) (w.heap.size + 1 + 1 + 1 + 1 + 1) _ (GRes.below HG.out BX7.out.bel) (Kd.C_below HR0.out BX7.out.bel) HC0.out (Kd.C_below HD.out BX7.out.bel) HCD.out ((blk_cell BX7.out.h1 0).trans rfl) ((blk_cell BX7.out.h1 1).trans rfl) ((blk_cell BX7.out.h2 0).trans rfl) ((blk_cell BX7.out.h3 0).trans rfl) ((blk_cell BX7.out.h4 0).trans rfl) ((blk_cell BX7.out.h5 0).trans rfl) H.out).mono ?_; rintro e w9 ⟨v, rfl, hs, hb⟩; obtain ⟨A9, c9, rfl⟩ := Kd.S_slice hs; have HS9 := Aside0.mk (Kd.S_lower hs (below_size BX7.out.bel)); have BX9 := Aside0.mk (BX7.out.keep hb); have hz : w9.cell? ⟨w.heap.size + 1 + 1 + 1 + 1 + 1 + 1, 0, none⟩ = some (.slice none 0 0) := (blk_cell BX9.out.h6 0).trans rfl; have hf := blk_frozen BX9.out.h6 0; clear hs hb q0 q2 q3 q5))
    refine bodyPost_ret (results_ct rfl _ _ (w.heap.size + 1 + 1 + 1 + 1 + 1 + 1) 36 #[.slice A9 r.length c9] (0, 0) _ rfl (blk_put BX9.out.h6 0 _ rfl) Tryd.underlying36 rfl (by kernel_rfl)) rfl ?_
    exact ⟨.slice A9 r.length c9, rfl, Kd.S_set HS9.out BX9.out.h6 (by decide) 0 _, below_set BX9.out.bel (by show w.heap.size ≤ w.heap.size + 1 + 1 + 1 + 1 + 1 + 1; omega)⟩
   rw [show decide (l5.length ≤ 1000) = true from decide_eq_true c4] at h
   have c4b : decide ((l5.length : Int) ≤ 1000) = true := decide_eq_true (by omega)
   clear c4
   cases hx : l5.any fun x => !kyB x with
   | true =>
    rw [hx] at h
    have HA := Aside0.mk (show impl_Finish.anyF l5 = some true by unfold impl_Finish.anyF; rw [hx])
    clear hx
    have H := Aside0.mk (show impl_Finish.ch k l0_0 false a1_0 a1_1 a2 a3 a4 l5 = some (r, c) from by simpa using h)
    clear h
    go_enter Tryd.func37, Tryd.ntmps37
    go_wp2_with (first | (go_at_call 70; refine (impl_Key_valid.calls a1_0 a1_1 _ _ (GRes.below HG.out BX0.out.bel) H1.out).mono ?_; rintro e w6 ⟨rfl, hb⟩; have BX6 := Aside0.mk (BX0.out.keep hb); have q0 : w6.cell? ⟨w.heap.size, 0, none⟩ = some (.slice A0_0 l0_0.length c0_0) := (blk_cell BX6.out.h0 0).trans rfl; have q2 : w6.cell? ⟨w.heap.size + 1 + 1, 0, none⟩ = some (.int .i64 a2) := (blk_cell BX6.out.h2 0).trans rfl; have q3 : w6.cell? ⟨w.heap.size + 1 + 1 + 1, 0, none⟩ = some (.int .i64 a3) := (blk_cell BX6.out.h3 0).trans rfl; have q5 : w6.cell? ⟨w.heap.size + 1 + 1 + 1 + 1 + 1, 0, none⟩ = some (.slice A5 l5.length c5) := (blk_cell BX6.out.h5 0).trans rfl; clear hb) | (go_at_call 71; refine (impl_workerOk.calls a2 _ _ H2.out).mono ?_; rintro e w7 ⟨rfl, hd⟩; have BX7 := Aside0.mk (show impl_Finish.Bs w w7 A0_0 l0_0.length c0_0 a1_0 a1_1 a2 a3 a4 A5 l5.length c5 by obtain ⟨nd, rfl⟩ := hd; exact BX6.out.keep (pw_below_drewN (Below.refl _ _) nd)); clear q0 q2 q3 q5; have q0 : w7.cell? ⟨w.heap.size, 0, none⟩ = some (.slice A0_0 l0_0.length c0_0) := (blk_cell BX7.out.h0 0).trans rfl; have q2 : w7.cell? ⟨w.heap.size + 1 + 1, 0, none⟩ = some (.int .i64 a2) := (blk_cell BX7.out.h2 0).trans rfl; have q3 : w7.cell? ⟨w.heap.size + 1 + 1 + 1, 0, none⟩ = some (.int .i64 a3) := (blk_cell BX7.out.h3 0).trans rfl; have q5 : w7.cell? ⟨w.heap.size + 1 + 1 + 1 + 1 + 1, 0, none⟩ = some (.slice A5 l5.length c5) := (blk_cell BX7.out.h5 0).trans rfl; clear hd) | (go_at_call 86; refine (impl_Finish.bad A5 c5 l5 _ _ (GRes.below HG.out BX7.out.bel) (Kd.C_below HD.out BX7.out.bel) HCD.out HA.out).mono ?_; rintro e w8 ⟨rfl, hb⟩; have BX8 := Aside0.mk (BX7.out.keep hb); clear q0 q2 q3 q5; have q0 : w8.cell? ⟨w.heap.size, 0, none⟩ = some (.slice A0_0 l0_0.length c0_0) := (blk_cell BX8.out.h0 0).trans rfl; have q2 : w8.cell? ⟨w.heap.size + 1 + 1, 0, none⟩ = some (.int .i64 a2) := (blk_cell BX8.out.h2 0).trans rfl; have q3 : w8.cell? ⟨w.heap.size + 1 + 1 + 1, 0, none⟩ = some (.int .i64 a3) := (blk_cell BX8.out.h3 0).trans rfl; have q5 : w8.cell? ⟨w.heap.size + 1 + 1 + 1 + 1 + 1, 0, none⟩ = some (.slice A5 l5.length c5) := (blk_cell BX8.out.h5 0).trans rfl; clear hb) | (go_at_call 76; refine (impl_Finish.changed k A0_0 c0_0 l0_0 _ a1_0 a1_1 a2 a3 a4 l5 r c (w.heap.size + 1) (w.heap.size + 1 + 1) (w.heap.size + 1 + 1 + 1) (w.heap.size + 1 + 1 + 1 + 1) (w.heap.size + 1 + 1 + 1 + 1 + 1) _ (GRes.below HG.out BX8.out.bel) (Kd.C_below HR0.out BX8.out.bel) HC0.out (Kd.C_below HD.out BX8.out.bel) HCD.out ((blk_cell BX8.out.h1 0).trans rfl) ((blk_cell BX8.out.h1 1).trans rfl) ((blk_cell BX8.out.h2 0).trans rfl) ((blk_cell BX8.out.h3 0).trans rfl) ((blk_cell BX8.out.h4 0).trans rfl) ((blk_cell BX8.out.h5 0).trans rfl) H.out).mono ?_; rintro e w9 ⟨v, rfl, hs, hb⟩; obtain ⟨A9, c9, rfl⟩ := Kd.S_slice hs; have HS9 := Aside0.mk (Kd.S_lower hs (below_size BX8.out.bel)); have BX9 := Aside0.mk (BX8.out.keep hb); have hz : w9.cell? ⟨w.heap.size + 1 + 1 + 1 + 1 + 1 + 1, 0, none⟩ = some (.slice none 0 0) := (blk_cell BX9.out.h6 0).trans rfl; have hf := blk_frozen BX9.out.h6 0; clear hs hb q0 q2 q3 q5))
    refine bodyPost_ret (results_ct rfl _ _ (w.heap.size + 1 + 1 + 1 + 1 + 1 + 1) 36 #[.slice A9 r.length c9] (0, 0) _ rfl (blk_put BX9.out.h6 0 _ rfl) Tryd.underlying36 rfl (by kernel_rfl)) rfl ?_
    exact ⟨.slice A9 r.length c9, rfl, Kd.S_set HS9.out BX9.out.h6 (by decide) 0 _, below_set BX9.out.bel (by show w.heap.size ≤ w.heap.size + 1 + 1 + 1 + 1 + 1 + 1; omega)⟩
   | false =>
    rw [hx] at h
    have HA := Aside0.mk (show impl_Finish.anyF l5 = some false by unfold impl_Finish.anyF; rw [hx])
    clear hx
    have H := Aside0.mk (show impl_Finish.ch k l0_0 true a1_0 a1_1 a2 a3 a4 l5 = some (r, c) from by simpa using h)
    clear h
    go_enter Tryd.func37, Tryd.ntmps37
    go_wp2_with (first | (go_at_call 70; refine (impl_Key_valid.calls a1_0 a1_1 _ _ (GRes.below HG.out BX0.out.bel) H1.out).mono ?_; rintro e w6 ⟨rfl, hb⟩; have BX6 := Aside0.mk (BX0.out.keep hb); have q0 : w6.cell? ⟨w.heap.size, 0, none⟩ = some (.slice A0_0 l0_0.length c0_0) := (blk_cell BX6.out.h0 0).trans rfl; have q2 : w6.cell? ⟨w.heap.size + 1 + 1, 0, none⟩ = some (.int .i64 a2) := (blk_cell BX6.out.h2 0).trans rfl; have q3 : w6.cell? ⟨w.heap.size + 1 + 1 + 1, 0, none⟩ = some (.int .i64 a3) := (blk_cell BX6.out.h3 0).trans rfl; have q5 : w6.cell? ⟨w.heap.size + 1 + 1 + 1 + 1 + 1, 0, none⟩ = some (.slice A5 l5.length c5) := (blk_cell BX6.out.h5 0).trans rfl; clear hb) | (go_at_call 71; refine (impl_workerOk.calls a2 _ _ H2.out).mono ?_; rintro e w7 ⟨rfl, hd⟩; have BX7 := Aside0.mk (show impl_Finish.Bs w w7 A0_0 l0_0.length c0_0 a1_0 a1_1 a2 a3 a4 A5 l5.length c5 by obtain ⟨nd, rfl⟩ := hd; exact BX6.out.keep (pw_below_drewN (Below.refl _ _) nd)); clear q0 q2 q3 q5; have q0 : w7.cell? ⟨w.heap.size, 0, none⟩ = some (.slice A0_0 l0_0.length c0_0) := (blk_cell BX7.out.h0 0).trans rfl; have q2 : w7.cell? ⟨w.heap.size + 1 + 1, 0, none⟩ = some (.int .i64 a2) := (blk_cell BX7.out.h2 0).trans rfl; have q3 : w7.cell? ⟨w.heap.size + 1 + 1 + 1, 0, none⟩ = some (.int .i64 a3) := (blk_cell BX7.out.h3 0).trans rfl; have q5 : w7.cell? ⟨w.heap.size + 1 + 1 + 1 + 1 + 1, 0, none⟩ = some (.slice A5 l5.length c5) := (blk_cell BX7.out.h5 0).trans rfl; clear hd) | (go_at_call 86; refine (impl_Finish.bad A5 c5 l5 _ _ (GRes.below HG.out BX7.out.bel) (Kd.C_below HD.out BX7.out.bel) HCD.out HA.out).mono ?_; rintro e w8 ⟨rfl, hb⟩; have BX8 := Aside0.mk (BX7.out.keep hb); clear q0 q2 q3 q5; have q0 : w8.cell? ⟨w.heap.size, 0, none⟩ = some (.slice A0_0 l0_0.length c0_0) := (blk_cell BX8.out.h0 0).trans rfl; have q2 : w8.cell? ⟨w.heap.size + 1 + 1, 0, none⟩ = some (.int .i64 a2) := (blk_cell BX8.out.h2 0).trans rfl; have q3 : w8.cell? ⟨w.heap.size + 1 + 1 + 1, 0, none⟩ = some (.int .i64 a3) := (blk_cell BX8.out.h3 0).trans rfl; have q5 : w8.cell? ⟨w.heap.size + 1 + 1 + 1 + 1 + 1, 0, none⟩ = some (.slice A5 l5.length c5) := (blk_cell BX8.out.h5 0).trans rfl; clear hb) | (go_at_call 76; refine (impl_Finish.changed k A0_0 c0_0 l0_0 _ a1_0 a1_1 a2 a3 a4 l5 r c (w.heap.size + 1) (w.heap.size + 1 + 1) (w.heap.size + 1 + 1 + 1) (w.heap.size + 1 + 1 + 1 + 1) (w.heap.size + 1 + 1 + 1 + 1 + 1) _ (GRes.below HG.out BX8.out.bel) (Kd.C_below HR0.out BX8.out.bel) HC0.out (Kd.C_below HD.out BX8.out.bel) HCD.out ((blk_cell BX8.out.h1 0).trans rfl) ((blk_cell BX8.out.h1 1).trans rfl) ((blk_cell BX8.out.h2 0).trans rfl) ((blk_cell BX8.out.h3 0).trans rfl) ((blk_cell BX8.out.h4 0).trans rfl) ((blk_cell BX8.out.h5 0).trans rfl) H.out).mono ?_; rintro e w9 ⟨v, rfl, hs, hb⟩; obtain ⟨A9, c9, rfl⟩ := Kd.S_slice hs; have HS9 := Aside0.mk (Kd.S_lower hs (below_size BX8.out.bel)); have BX9 := Aside0.mk (BX8.out.keep hb); have hz : w9.cell? ⟨w.heap.size + 1 + 1 + 1 + 1 + 1 + 1, 0, none⟩ = some (.slice none 0 0) := (blk_cell BX9.out.h6 0).trans rfl; have hf := blk_frozen BX9.out.h6 0; clear hs hb q0 q2 q3 q5))
    refine bodyPost_ret (results_ct rfl _ _ (w.heap.size + 1 + 1 + 1 + 1 + 1 + 1) 36 #[.slice A9 r.length c9] (0, 0) _ rfl (blk_put BX9.out.h6 0 _ rfl) Tryd.underlying36 rfl (by kernel_rfl)) rfl ?_
    exact ⟨.slice A9 r.length c9, rfl, Kd.S_set HS9.out BX9.out.h6 (by decide) 0 _, below_set BX9.out.bel (by show w.heap.size ≤ w.heap.size + 1 + 1 + 1 + 1 + 1 + 1; omega)⟩
end Go.Proofs.YtnbohlcibgfjaaaDoor.Gp
end
