/- A part of the proof of RowFnExactRelease: each text's theorems that it needs, packed by shake.py, a program of this work; Lean checks them. -/
import Derived.Test.YtnbohlcibgfjaaaDoorRel3
import Derived.Test.YtnbohlcibgfjaaaDoorRel18
import Derived.Test.YtnbohlcibgfjaaaDoorRel4
import Derived.Test.YtnbohlcibgfjaaaDoorRel5
import Derived.Test.YtnbohlcibgfjaaaDoorRel6
import Derived.Test.YtnbohlcibgfjaaaDoorRel10
import Derived.Test.YtnbohlcibgfjaaaDoorRel17
section
namespace Go.Proofs.YtnbohlcibgfjaaaDoor.Gp
open Go.RowKit Go.Proofs.YtnbohlcibgfjaaaDoorW.PrintWords Go.Proofs.YtnbohlcibgfjaaaDoorW.PrintLast Go.Proofs.YtnbohlcibgfjaaaDoorW.PrintMore
set_option linter.unusedVariables false
set_option linter.unusedSimpArgs false
def laws_heldTable.f (k : Nat) (l0_0 : List (S32)) (a1 : Int) : Option (Int) := (laws_heldSlotS.f k l0_0 a1).bind fun t252 => (if t252 < 0 then (some (-1)) else (some t252))
set_option maxHeartbeats 8000000 in
set_option maxRecDepth 100000 in
theorem laws_heldTable.calls (k : Nat) (A0_0 : Option Addr) (c0_0 : Nat) (l0_0 : List (S32)) (a1 : Int) (r : Int) (w : World) (hr0_0 : Kd.C k32 w A0_0 l0_0.length l0_0) (hc0_0 : l0_0.length ≤ c0_0) (h : laws_heldTable.f k l0_0 a1 = some r) :
 Calls Tryd.prog 31 #[.agg #[.slice A0_0 l0_0.length c0_0], .int .i64 a1] w fun e w' => e = .returned (.int .i64 r) ∧ Below w.heap.size w w' := by
 have hu36 := Tryd.underlying36
 have HR0_0 := Aside0.mk hr0_0
 have HC0_0 := Aside0.mk hc0_0
 clear hr0_0 hc0_0
 have HB := Aside0.mk (Below.refl w.heap.size w)
 have H : ((laws_heldSlotS.f k l0_0 a1).bind fun t252 => (if t252 < 0 then (some (-1)) else (some t252))) = some r := h
 clear h
 replace H := Option.bind_eq_some_iff.mp H
 obtain ⟨t252, A30, H⟩ := H
 replace H : (if t252 < 0 then (some (-1)) else (some t252)) = some r := H
 have A3 := Aside0.mk A30
 clear A30
 have HL4 := Aside0.mk H
 clear H
 go_enter Tryd.func31, Tryd.ntmps31
 go_upto_if 10 with (first | ((with_reducible refine gate_dst (N := 2) rfl ?_); refine box_event ?hg (N := 2) ?hd (cs := #[.slice A0_0 l0_0.length c0_0]) (t := 36) ?hr ?_; (case hd => rfl); (case hg => rfl); (case hr => first | (go_simp; done) | (go_simp; rfl)); intro gb251 hg w5 hbox hb; have hb1_ := fromQ HB.out hb; have hb0_ := below_step hb1_ hb; have hW_ := below_step HB.out hb1_; have n1_ := Aside0.mk (hbox); have n2_ := szle hg hW_; have n3_ := szle hg hW_; replace HB := kH HB hb0_; have BK251 := n1_; have GW251 := n2_; have GE251 := n3_; clear hb1_ hb0_ hW_ n1_ n2_ n3_; clear hb hbox hg; obtain ⟨hcz6_0, hfz6_0⟩ := bkA1 BK251.out) | ((with_reducible refine gate_callee (f := 79) rfl ?_); refine goesL_ (some 8) rfl rfl Tryd.func79 (by kernel_rfl) rfl #[.slice A0_0 l0_0.length c0_0, .int .i64 a1] rfl (by (try simp only [List.map_toArray, List.map_cons, List.map_nil]); first | done | rfl | (simp only [List.length_drop, List.length_take]; rfl)) ?_; (with_reducible refine (laws_heldSlotS.calls k _ _ l0_0 a1 t252 _ ?side1 ?side2 A3.out).mono ?_); (case side1 => repeat (first | exact (Kd.C_below HR0_0.out HB.out) | (with_reducible refine Kd.C_alloc ?_ _) | (with_reducible refine Kd.C_drewN ?_ _) | (with_reducible refine Kd.C_drew ?_))); (case side2 => exact HC0_0.out); rintro e w7 ⟨rfl, hb⟩; refine ⟨_, rfl, ?_⟩; have hb1_ := fromQ HB.out hb; have hb0_ := below_step hb1_ hb; replace BK251 := kB BK251 hb0_; replace HB := kH HB hb0_; clear hb1_ hb0_; (try clear hb); (try clear hb2); (try clear hk); (try clear hi)))
 have H := HL4.out
 clear HL4
 by_cases c8 : t252 < 0
 ·
  rw [if_pos c8] at H
  have c8b0 : decide (t252 < 0) = true := decide_eq_true c8
  clear c8
  (first | rw [c8b0] | (simp only [i64_w, i32_w]; rw [c8b0]) | simp only [c8b2, Bool.not_false, Bool.not_true] | skip)
  obtain rfl := Option.some.inj H
  go_wp2
  go_ret
  exact ⟨by first | rfl | (simp [errW_none, errW_some] <;> rfl) | (simp [*, errW_none, errW_some] <;> rfl), by repeat (first | (with_reducible first | exact HB.out | apply below_alloc | apply pw_below_drewN | apply below_drew1 | refine below_set ?_ GE251.out) | exact HB.out)⟩
 rw [if_neg c8] at H
 have c8b0 : decide (t252 < 0) = false := decide_eq_false c8
 clear c8
 (first | rw [c8b0] | (simp only [i64_w, i32_w]; rw [c8b0]) | simp only [c8b2, Bool.not_false, Bool.not_true] | skip)
 obtain rfl := Option.some.inj H
 go_wp2
 go_ret
 exact ⟨by first | rfl | (simp [errW_none, errW_some] <;> rfl) | (simp [*, errW_none, errW_some] <;> rfl), by repeat (first | (with_reducible first | exact HB.out | apply below_alloc | apply pw_below_drewN | apply below_drew1 | refine below_set ?_ GE251.out) | exact HB.out)⟩
structure LBx (w0 W : World) (A0 : Option Addr) (n0 c0 : Nat) : Prop where
 h0 : W.heap[w0.heap.size]? = some (.cells #[.slice A0 n0 c0] 24 (0, 0))
 bel : Below w0.heap.size w0 W
theorem LBx.keep {w0 W W1 : World} {A0 : Option Addr} {n0 c0 : Nat} (h : LBx w0 W A0 n0 c0) (b : Below W.heap.size W W1) : LBx w0 W1 A0 n0 c0 := ⟨blk_below h.h0 b, below_step h.bel b⟩
theorem LBx.init (w : World) (A0 : Option Addr) (n0 c0 : Nat) : LBx w (w.alloc (.cells #[.slice A0 n0 c0] 24)) A0 n0 c0 := ⟨blk_new w _, by repeat (first | exact Below.refl _ _ | apply below_alloc)⟩
theorem LBx.kept {w0 W W1 : World} {A0 : Option Addr} {n0 c0 : Nat} {S : Nat → Prop} (h : LBx w0 W A0 n0 c0) (hk : Kept W W1 S) (h0 : ¬ S w0.heap.size) (hb : Below w0.heap.size w0 W1) : LBx w0 W1 A0 n0 c0 := ⟨blk_kept h.h0 hk h0, hb⟩
theorem LBx.lo {w0 W : World} {A0 : Option Addr} {n0 c0 : Nat} (h : LBx w0 W A0 n0 c0) : w0.heap.size < W.heap.size := blk_lt h.h0
theorem heldTable_at (k : Nat) (A : Option Addr) (n c : Nat) (l : List S32) (x r : Int) (w : World) (hn : n = l.length) (hr : Kd.C k32 w A l.length l) (hc : n ≤ c) (h : laws_heldTable.f k l x = some r) :
 Calls Tryd.prog 31 #[.agg #[.slice A n c], .int .i64 x] w fun e w' => e = .returned (.int .i64 r) ∧ Below w.heap.size w w' := by
 subst hn
 exact laws_heldTable.calls k A c l x r w hr hc h
theorem eqTable_at (k : Nat) (A1 A2 : Option Addr) (c1 c2 : Nat) (l1 l2 : List S32) (w : World) (h1 : Kd.C k32 w A1 l1.length l1) (e1 : l1.length ≤ c1) (h2 : Kd.C k32 w A2 l2.length l2) (e2 : l2.length ≤ c2) (h : laws_eqTable.f k l1 l2 = some true) :
 Calls Tryd.prog 20 #[.agg #[.slice A1 l1.length c1], .agg #[.slice A2 l2.length c2]] w fun e w' => e = .returned (.bool true) ∧ Below w.heap.size w w' := laws_eqTable.calls k A1 c1 l1 A2 c2 l2 true w h1 e1 h2 e2 h
def F27 (k : Nat) (l0 : List S154) (a1 : Int) : Option Bool :=
 (laws_toTable.f k l0).bind fun tb => (spec_Release.f k tb a1).bind fun rs => (impl_Release.f k tb a1).bind fun ri => (laws_eqTable.f k ri rs).bind fun e1 => (laws_eqTable.f k tb tb).bind fun e2 => (laws_markTable.f k tb 1).bind fun q => (laws_markTable.f k ri 1).bind fun m => (laws_heldTable.f k m.2 1).bind fun hq =>
  if ((e1 = true ∧ e2 = true) ∧ ¬ q.1 < 0) ∧ (¬ hq < 0 ∧ hq = m.1) then some true else none
def laws_FnExactRelease.f (k : Nat) (l0 : List S154) (a1 : Int) : Option Bool :=
 (laws_szTable.f k l0 1048576).bind fun t1 => if t1 < 0 then some true else F27 k l0 a1
set_option maxHeartbeats 64000000 in
set_option maxRecDepth 100000 in
theorem laws_FnExactRelease.calls (k : Nat) (A0_0 : Option Addr) (c0_0 : Nat) (l0_0 : List S154) (a1 : Int) (r : Bool) (w : World) (hG : GRes w) (hr0_0 : Kd.C k154 w A0_0 l0_0.length l0_0) (hc0_0 : l0_0.length ≤ c0_0) (h : laws_FnExactRelease.f k l0_0 a1 = some r) :
 Calls Tryd.prog 5 #[.agg #[.slice A0_0 l0_0.length c0_0], .int .i64 a1] w fun e w' => e = .returned (.bool r) ∧ Below w.heap.size w w' := by
 have hu1 := Tryd.underlying36
 have hu3 := Tryd.underlying32
 have hu4 := Tryd.underlying24
 unfold laws_FnExactRelease.f at h
 obtain ⟨t1, ht1, h⟩ := Option.bind_eq_some_iff.mp h
 have HG := Aside0.mk hG
 have HR0 := Aside0.mk hr0_0
 have HC0 := Aside0.mk hc0_0
 have H1 := Aside0.mk ht1
 have BX0 := Aside0.mk (LBx.init w A0_0 l0_0.length c0_0)
 clear hG hr0_0 hc0_0 ht1
 by_cases c1 : t1 < 0
 case pos =>
  rw [if_pos c1] at h
  obtain rfl := Option.some.inj h
  have c1b : decide (t1 < 0) = true := decide_eq_true c1
  clear h c1
  go_enter Tryd.func5, Tryd.ntmps5
  go_wp2_with (first | (go_at_call 13; refine (laws_szTable.calls k A0_0 c0_0 l0_0 1048576 t1 _ (Kd.C_below HR0.out BX0.out.bel) HC0.out H1.out).mono ?_; rintro e w1 ⟨rfl, hb1⟩; have BX1 := Aside0.mk (BX0.out.keep hb1); have hk1 : w1.cell? ⟨w.heap.size, 0, none⟩ = some (.slice A0_0 l0_0.length c0_0) := (blk_cell BX1.out.h0 0).trans rfl; have hl1 := BX1.out.lo; clear hb1 BX0))
  go_ret
  exact ⟨rfl, BX1.out.bel⟩
 rw [if_neg c1] at h
 have c1b : decide (t1 < 0) = false := decide_eq_false c1
 clear c1
 unfold F27 at h
 replace h := Option.bind_eq_some_iff.mp h
 obtain ⟨tb, htb, h⟩ := h
 replace h := Option.bind_eq_some_iff.mp h
 obtain ⟨rs, hp, h⟩ := h
 replace h := Option.bind_eq_some_iff.mp h
 obtain ⟨ri, hs, h⟩ := h
 replace h := Option.bind_eq_some_iff.mp h
 obtain ⟨e1, he1, h⟩ := h
 replace h := Option.bind_eq_some_iff.mp h
 obtain ⟨e2, he2, h⟩ := h
 replace h := Option.bind_eq_some_iff.mp h
 obtain ⟨⟨q1, tb'⟩, hq, h⟩ := h
 replace h := Option.bind_eq_some_iff.mp h
 obtain ⟨⟨m1, ri'⟩, hm, h⟩ := h
 replace h := Option.bind_eq_some_iff.mp h
 obtain ⟨y, hy, h⟩ := h
 by_cases gd : ((e1 = true ∧ e2 = true) ∧ ¬ q1 < 0) ∧ (¬ y < 0 ∧ y = m1)
 case neg => rw [if_neg gd] at h; cases h
 rw [if_pos gd] at h
 obtain rfl := Option.some.inj h
 obtain ⟨⟨⟨rfl, rfl⟩, cq⟩, cy, rfl⟩ := gd
 have HTB := Aside0.mk htb
 have HP := Aside0.mk hp
 have HSf := Aside0.mk hs
 have HE1 := Aside0.mk he1
 have HE2 := Aside0.mk he2
 have HQ := Aside0.mk hq
 have HM := Aside0.mk hm
 have HY := Aside0.mk hy
 have cqb : decide (q1 < 0) = false := decide_eq_false cq
 have cyb : decide (y < 0) = false := decide_eq_false cy
 clear htb hp hs he1 he2 hq hm hy h cq cy
 go_enter Tryd.func5, Tryd.ntmps5
 go_wp2_with (first | (go_at_call 13; refine (laws_szTable.calls k A0_0 c0_0 l0_0 1048576 t1 _ (Kd.C_below HR0.out BX0.out.bel) HC0.out H1.out).mono ?_; rintro e w1 ⟨rfl, hb1⟩; have BX1 := Aside0.mk (BX0.out.keep hb1); have hk1 : w1.cell? ⟨w.heap.size, 0, none⟩ = some (.slice A0_0 l0_0.length c0_0) := (blk_cell BX1.out.h0 0).trans rfl; have hl1 := BX1.out.lo; clear hb1 BX0) | (go_at_call 16; refine (laws_toTable.calls k A0_0 c0_0 l0_0 tb _ (Kd.C_below HR0.out BX1.out.bel) HC0.out HTB.out).mono ?_; rintro e w2 ⟨v_, rfl, hS, hb⟩; obtain ⟨At, ct, rfl⟩ := Kd.S_slice hS; have BX2 := Aside0.mk (BX1.out.keep hb); have HS2 := Aside0.mk hS; clear hS hb BX1 hk1 hl1) | (go_at_call 29; refine (spec_Release.calls k At ct tb a1 rs _ (Kd.S_reads' HS2.out).2.2 (Kd.S_reads' HS2.out).2.1 HP.out).mono ?_; rintro e w3 ⟨v_, rfl, hS, hb⟩; obtain ⟨Ad, cd, rfl⟩ := Kd.S_slice hS; have BX3 := Aside0.mk (BX2.out.keep hb); have HB2 := Aside0.mk BX2.out.bel; have HL2 := Aside0.mk BX2.out.lo; have HB3 := Aside0.mk hb.size; have HS3 := Aside0.mk hS; have hk1 : w3.cell? ⟨w.heap.size, 0, none⟩ = some (.slice A0_0 l0_0.length c0_0) := (blk_cell BX3.out.h0 0).trans rfl; have hl1 := BX3.out.lo; clear hS hb BX2 HS2) | (go_at_call 16; obtain ⟨w4, hw4⟩ : ∃ W_ : World, W_ = w3.alloc (.cells #[.slice Ad rs.length cd] 36) := ⟨_, rfl⟩; rw [← hw4]; have hb5 : Below w3.heap.size w3 w4 := (by rw [hw4]; exact below_alloc (Below.refl _ _) _); have hx5 : w4.heap[w3.heap.size]? = some (.cells #[.slice Ad rs.length cd] 36 (0, 0)) := (by rw [hw4]; exact blk_new _ _); have BX4 := Aside0.mk (BX3.out.keep hb5); have RW4 := Aside0.mk (show ResS k32 32 36 w w4 w2.heap.size w4.heap.size w3.heap.size #[.slice Ad rs.length cd] (.slice Ad rs.length cd) rs from ResS.mk2 hx5 HB3.out (blk_lt hx5) rfl (below_size HB2.out) (Kd.S_below HS3.out hb5) (by decide)); clear hw4 hb5 hx5 BX3; have HB4 := Aside0.mk BX4.out.bel; refine (laws_toTable.calls k A0_0 c0_0 l0_0 tb _ (Kd.C_below HR0.out BX4.out.bel) HC0.out HTB.out).mono ?_; rintro e w5 ⟨v_, rfl, hS, hb⟩; obtain ⟨Ax, cx, rfl⟩ := Kd.S_slice hS; have BX5 := Aside0.mk (BX4.out.keep hb); have RW5 := Aside0.mk (RW4.out.keep hb); have HB5 := Aside0.mk hb.size; have HS5 := Aside0.mk hS; clear hS hb BX4 RW4 HS3 hk1 hl1) | (go_at_call 30; obtain ⟨w6, hw6⟩ : ∃ W_ : World, W_ = w5.alloc (.cells #[.slice Ax tb.length cx] 36) := ⟨_, rfl⟩; rw [← hw6]; have hb5 : Below w5.heap.size w5 w6 := (by rw [hw6]; exact below_alloc (Below.refl _ _) _); have hx5 : w6.heap[w5.heap.size]? = some (.cells #[.slice Ax tb.length cx] 36 (0, 0)) := (by rw [hw6]; exact blk_new _ _); have BX6 := Aside0.mk (BX5.out.keep hb5); have RW6 := Aside0.mk (RW5.out.keep hb5); have RX6 := Aside0.mk (show ResS k32 32 36 w w6 w4.heap.size w6.heap.size w5.heap.size #[.slice Ax tb.length cx] (.slice Ax tb.length cx) tb from ResS.mk2 hx5 HB5.out (blk_lt hx5) rfl (below_size HB4.out) (Kd.S_below HS5.out hb5) (by decide)); clear hw6 hb5 hx5 BX5 RW5; have HB6 := Aside0.mk BX6.out.bel; refine (impl_Release.calls k Ax cx tb a1 ri _ (HG.out.below BX6.out.bel) RX6.out.reads.2.2 RX6.out.reads.2.1 HSf.out).mono ?_; rintro e w7 ⟨v_, rfl, hS, hb⟩; obtain ⟨Ag, cg, rfl⟩ := Kd.S_slice hS; have BX7 := Aside0.mk (BX6.out.keep hb); have RW7 := Aside0.mk (RW6.out.keep hb); have RX7 := Aside0.mk (RX6.out.keep hb); have HB7 := Aside0.mk hb.size; have HS7 := Aside0.mk hS; have hd : w7.cell? ⟨w3.heap.size, 0, none⟩ = some (.slice Ad rs.length cd) := (blk_cell RW7.out.b 0).trans rfl; have hdl := blk_lt RW7.out.b; clear hS hb BX6 RW6 RX6 HS5) | (go_at_call 20; obtain ⟨w8, hw8⟩ : ∃ W_ : World, W_ = w7.alloc (.cells #[.slice Ag ri.length cg] 36) := ⟨_, rfl⟩; rw [← hw8]; have hb5 : Below w7.heap.size w7 w8 := (by rw [hw8]; exact below_alloc (Below.refl _ _) _); have hx5 : w8.heap[w7.heap.size]? = some (.cells #[.slice Ag ri.length cg] 36 (0, 0)) := (by rw [hw8]; exact blk_new _ _); have BX8 := Aside0.mk (BX7.out.keep hb5); have RW8 := Aside0.mk (RW7.out.keep hb5); have RX8 := Aside0.mk (RX7.out.keep hb5); have RG8 := Aside0.mk (show ResS k32 32 36 w w8 w6.heap.size w8.heap.size w7.heap.size #[.slice Ag ri.length cg] (.slice Ag ri.length cg) ri from ResS.mk2 hx5 HB7.out (blk_lt hx5) rfl (below_size HB6.out) (Kd.S_below HS7.out hb5) (by decide)); clear hw8 hb5 hx5 BX7 RW7 RX7; refine (eqTable_at k Ag Ad cg cd ri rs _ RG8.out.reads.2.2 RG8.out.reads.2.1 RW8.out.reads.2.2 RW8.out.reads.2.1 HE1.out).mono ?_; rintro e w9 ⟨rfl, hb⟩; have BX9 := Aside0.mk (BX8.out.keep hb); have RW9 := Aside0.mk (RW8.out.keep hb); have RX9 := Aside0.mk (RX8.out.keep hb); have RG9 := Aside0.mk (RG8.out.keep hb); clear hb BX8 RW8 RX8 RG8 hd hdl HS7))
 refine start_ (n := 5) (S := fun w' => w'.cell? ⟨w5.heap.size, 0, none⟩ = some (.slice Ax tb.length cx) ∧ w'.cell? ⟨w.heap.size, 0, none⟩ = some (.slice A0_0 l0_0.length c0_0)) (ds := [35]) #[false, false, false, false, false] (by kernel_rfl) rfl rfl ⟨(blk_cell RX9.out.b 0).trans rfl, (blk_cell BX9.out.h0 0).trans rfl⟩ (fun hHeld => ?_)
 refine takeY (i := 0) (N := some 31) (v := ?_) (a' := ?_) #[true, false, false, false, false] rfl rfl (by kernel_rfl) ⟨by rfl, ?_⟩ hHeld ?_ ?_
 rotate_left
 · rintro w' ⟨s0, s1⟩
   go_simp
   with_reducible rfl
 rotate_left
 · simp only [Act.put, sA_, i64_w, i32_w]
   rfl
 refine takeY (i := 1) (N := some 32) (v := ?_) (a' := ?_) #[true, true, false, false, false] rfl rfl (by kernel_rfl) ⟨by rfl, ?_⟩ hHeld ?_ ?_
 rotate_left
 · rintro w' ⟨s0, s1⟩
   go_simp
   with_reducible rfl
 rotate_left
 · simp only [Act.put, sA_, i64_w, i32_w]
   rfl
 refine one_ (i := 2) (N := some 33) #[true, true, true, false, false] rfl rfl (by kernel_rfl) (by decide) (fun K hK => ?_)
 refine goes_ Tryd.func16 rfl rfl #[.agg #[.slice A0_0 l0_0.length c0_0]] rfl rfl rfl (by (try simp only [List.map_toArray, List.map_cons, List.map_nil, List.append_toArray, List.append_nil, List.nil_append, List.cons_append]); rfl) ?_
 refine (laws_toTable.calls k A0_0 c0_0 l0_0 tb _ (Kd.C_below HR0.out (below_drew1 BX9.out.bel)) HC0.out HTB.out).mono ?_
 rintro e w10 ⟨v_, rfl, hS, hb⟩
 obtain ⟨Au, cu, rfl⟩ := Kd.S_slice hS
 refine ⟨_, rfl, ?_⟩
 have hbj := below_step (below_drew1 (Below.refl _ _)) hb
 have BX10 := Aside0.mk (BX9.out.keep hbj); have RW10 := Aside0.mk (RW9.out.keep hbj); have RX10 := Aside0.mk (RX9.out.keep hbj); have RG10 := Aside0.mk (RG9.out.keep hbj)
 refine hK.out _ _ ⟨pw_cell_below hb hHeld.1, pw_cell_below hb hHeld.2⟩ (fun hHeld => ?_)
 clear hK K
 refine norm_ (a' := ?_) ?_ ?_
 rotate_left
 · show Act.put _ (some 33) _ = _
   simp only [Act.put, sA_, i64_w, i32_w]
   rfl
 have HS10 := Aside0.mk hS
 clear hS hb hbj BX9 RW9 RX9 RG9
 refine one_ (i := 3) (N := some 34) #[true, true, true, true, false] rfl rfl (by kernel_rfl) (by decide) (fun K hK => ?_)
 refine goes_ Tryd.func20 rfl rfl #[.agg #[.slice Ax tb.length cx], .agg #[.slice Au tb.length cu]] rfl rfl rfl (by (try simp only [List.map_toArray, List.map_cons, List.map_nil, List.append_toArray, List.append_nil, List.nil_append, List.cons_append]); rfl) ?_
 refine (laws_eqTable.calls k Ax cx tb Au cu tb true _ RX10.out.reads.2.2 RX10.out.reads.2.1 (Kd.S_reads' HS10.out).2.2 (Kd.S_reads' HS10.out).2.1 HE2.out).mono ?_
 rintro e w11 ⟨rfl, hb⟩
 refine ⟨_, rfl, ?_⟩
 have BX11 := Aside0.mk (BX10.out.keep hb); have RW11 := Aside0.mk (RW10.out.keep hb); have RX11 := Aside0.mk (RX10.out.keep hb); have RG11 := Aside0.mk (RG10.out.keep hb)
 refine hK.out _ _ ⟨pw_cell_below hb hHeld.1, pw_cell_below hb hHeld.2⟩ (fun hHeld => ?_)
 clear hK K
 refine norm_ (a' := ?_) ?_ ?_
 rotate_left
 · show Act.put _ (some 34) _ = _
   simp only [Act.put, sA_, i64_w, i32_w]
   rfl
 clear hb HS10 BX10 RW10 RX10 RG10
 refine pureY (i := 4) (N := some 35) (v := ?_) (a' := ?_) #[true, true, true, true, true] rfl rfl (by kernel_rfl) ⟨by rfl, ?_⟩ ?_ ?_
 rotate_left
 · intro w'
   go_simp
   with_reducible rfl
 rotate_left
 · simp only [Act.put, sA_, i64_w, i32_w]
   rfl
 refine done_ (by kernel_rfl) ?_
 clear hHeld
 have hk7 : w11.cell? ⟨w5.heap.size, 0, none⟩ = some (.slice Ax tb.length cx) := (blk_cell RX11.out.b 0).trans rfl
 go_wp2_with (first | (go_at_call 21; refine (laws_markTable.calls k (fun k_ => w4.heap.size ≤ k_ ∧ k_ < w6.heap.size ∧ k_ ≠ w5.heap.size) (.slice Ax tb.length cx) tb 1 q1 tb' w _ BX11.out.bel RX11.out.r HQ.out).mono ?_; rintro e w12 ⟨rfl, hs, hb, hk⟩; have BX12 := Aside0.mk (BX11.out.kept hk (fun e_ => by have := HL2.out; have := RW11.out.ge; have := RW11.out.lt; have := RX11.out.ge; have := RX11.out.lt; have := RG11.out.ge; have := RG11.out.lt; have := e_.1; omega) hb); have RX12 := Aside0.mk (show ResS k32 32 36 w w12 w4.heap.size w6.heap.size w5.heap.size #[.slice Ax tb.length cx] (.slice Ax tb.length cx) tb' from RX11.out.mark hk hs); have RW12 := Aside0.mk (RW11.out.kept hk (fun k_ e_ => by have := HL2.out; have := RW11.out.ge; have := RW11.out.lt; have := RX11.out.ge; have := RX11.out.lt; have := RG11.out.ge; have := RG11.out.lt; omega)); have RG12 := Aside0.mk (RG11.out.kept hk (fun k_ e_ => by have := HL2.out; have := RW11.out.ge; have := RW11.out.lt; have := RX11.out.ge; have := RX11.out.lt; have := RG11.out.ge; have := RG11.out.lt; omega)); clear hs hb hk hk7 BX11 RW11 RX11 RG11; refine Hid.out ?_))
 refine Lib.hid ?_
 have ha : w12.cell? ⟨w7.heap.size, 0, none⟩ = some (.slice Ag ri.length cg) := (blk_cell RG12.out.b 0).trans rfl
 have hd : w12.cell? ⟨w3.heap.size, 0, none⟩ = some (.slice Ad rs.length cd) := (blk_cell RW12.out.b 0).trans rfl
 go_wp2_with (first | (go_at_call 20; refine (eqTable_at k Ag Ad cg cd ri rs _ RG12.out.reads.2.2 RG12.out.reads.2.1 RW12.out.reads.2.2 RW12.out.reads.2.1 HE1.out).mono ?_; rintro e w13 ⟨rfl, hb⟩; have BX13 := Aside0.mk (BX12.out.keep hb); have RW13 := Aside0.mk (RW12.out.keep hb); have RX13 := Aside0.mk (RX12.out.keep hb); have RG13 := Aside0.mk (RG12.out.keep hb); clear hb BX12 RW12 RX12 RG12 ha hd; refine Hid.out ?_))
 refine Lib.hid ?_
 have ha : w13.cell? ⟨w7.heap.size, 0, none⟩ = some (.slice Ag ri.length cg) := (blk_cell RG13.out.b 0).trans rfl
 go_wp2_with (first | (go_at_call 21; refine (laws_markTable.calls k (fun k_ => w6.heap.size ≤ k_ ∧ k_ < w8.heap.size ∧ k_ ≠ w7.heap.size) (.slice Ag ri.length cg) ri 1 y ri' w _ BX13.out.bel RG13.out.r HM.out).mono ?_; rintro e w14 ⟨rfl, hs, hb, hk⟩; have BX14 := Aside0.mk (BX13.out.kept hk (fun e_ => by have := HL2.out; have := RW13.out.ge; have := RW13.out.lt; have := RX13.out.ge; have := RX13.out.lt; have := RG13.out.ge; have := RG13.out.lt; have := e_.1; omega) hb); have RG14 := Aside0.mk (show ResS k32 32 36 w w14 w6.heap.size w8.heap.size w7.heap.size #[.slice Ag ri.length cg] (.slice Ag ri.length cg) ri' from RG13.out.mark hk hs); have RW14 := Aside0.mk (RW13.out.kept hk (fun k_ e_ => by have := HL2.out; have := RW13.out.ge; have := RW13.out.lt; have := RX13.out.ge; have := RX13.out.lt; have := RG13.out.ge; have := RG13.out.lt; omega)); have RX14 := Aside0.mk (RX13.out.kept hk (fun k_ e_ => by have := HL2.out; have := RW13.out.ge; have := RW13.out.lt; have := RX13.out.ge; have := RX13.out.lt; have := RG13.out.ge; have := RG13.out.lt; omega)); clear hs hb hk ha BX13 RW13 RX13 RG13; refine Hid.out ?_))
 refine Lib.hid ?_
 have ha : w14.cell? ⟨w7.heap.size, 0, none⟩ = some (.slice Ag ri.length cg) := (blk_cell RG14.out.b 0).trans rfl
 go_wp2_with (first | (go_at_call 31; refine (heldTable_at k Ag ri.length cg ri' 1 y _ RG14.out.reads.1 RG14.out.reads.2.2 RG14.out.reads.2.1 HY.out).mono ?_; rintro e w15 ⟨rfl, hb⟩; have BX15 := Aside0.mk (BX14.out.keep hb); have RW15 := Aside0.mk (RW14.out.keep hb); have RX15 := Aside0.mk (RX14.out.keep hb); have RG15 := Aside0.mk (RG14.out.keep hb); clear hb BX14 RW14 RX14 RG14; have hk1 : w15.cell? ⟨w.heap.size, 0, none⟩ = some (.slice A0_0 l0_0.length c0_0) := (blk_cell BX15.out.h0 0).trans rfl; have hl1 := BX15.out.lo; clear ha) | (go_at_call 16; refine (laws_toTable.calls k A0_0 c0_0 l0_0 tb _ (Kd.C_below HR0.out BX15.out.bel) HC0.out HTB.out).mono ?_; rintro e w16 ⟨v_, rfl, hS, hb⟩; obtain ⟨Av, cv, rfl⟩ := Kd.S_slice hS; have BX16 := Aside0.mk (BX15.out.keep hb); have RW16 := Aside0.mk (RW15.out.keep hb); have RX16 := Aside0.mk (RX15.out.keep hb); have RG16 := Aside0.mk (RG15.out.keep hb); have HS16 := Aside0.mk hS; clear hS hb hk1 hl1 BX15 RW15 RX15 RG15) | (go_at_call 30; refine (impl_Release.calls k Av cv tb a1 ri _ (HG.out.below BX16.out.bel) (Kd.S_reads' HS16.out).2.2 (Kd.S_reads' HS16.out).2.1 HSf.out).mono ?_; rintro e w17 ⟨v_, rfl, hS, hb⟩; obtain ⟨Ah, ch, rfl⟩ := Kd.S_slice hS; have BX17 := Aside0.mk (BX16.out.keep hb); have RW17 := Aside0.mk (RW16.out.keep hb); have RX17 := Aside0.mk (RX16.out.keep hb); have RG17 := Aside0.mk (RG16.out.keep hb); have HS17 := Aside0.mk hS; have hd : w17.cell? ⟨w3.heap.size, 0, none⟩ = some (.slice Ad rs.length cd) := (blk_cell RW17.out.b 0).trans rfl; have hdl := blk_lt RW17.out.b; clear hS hb HS16 BX16 RW16 RX16 RG16) | (go_at_call 20; obtain ⟨w18, hw18⟩ : ∃ W_ : World, W_ = w17.alloc (.cells #[.slice Ah ri.length ch] 36) := ⟨_, rfl⟩; rw [← hw18]; have hb5 : Below w17.heap.size w17 w18 := (by rw [hw18]; exact below_alloc (Below.refl _ _) _); have BX18 := Aside0.mk (BX17.out.keep hb5); have RW18 := Aside0.mk (RW17.out.keep hb5); have RX18 := Aside0.mk (RX17.out.keep hb5); have RG18 := Aside0.mk (RG17.out.keep hb5); have HS18 := Aside0.mk (Kd.S_below HS17.out hb5); clear hw18 hb5 HS17 hd hdl BX17 RW17 RX17 RG17; refine (eqTable_at k Ah Ad ch cd ri rs _ (Kd.S_reads' HS18.out).2.2 (Kd.S_reads' HS18.out).2.1 RW18.out.reads.2.2 RW18.out.reads.2.1 HE1.out).mono ?_; rintro e w19 ⟨rfl, hb⟩; have BX19 := Aside0.mk (BX18.out.keep hb); have RW19 := Aside0.mk (RW18.out.keep hb); have RX19 := Aside0.mk (RX18.out.keep hb); have RG19 := Aside0.mk (RG18.out.keep hb); have ha : w19.cell? ⟨w7.heap.size, 0, none⟩ = some (.slice Ag ri.length cg) := (blk_cell RG19.out.b 0).trans rfl; clear hb HS18 BX18 RW18 RX18 RG18) | (go_at_call 31; refine (heldTable_at k Ag ri.length cg ri' 1 y _ RG19.out.reads.1 RG19.out.reads.2.2 RG19.out.reads.2.1 HY.out).mono ?_; rintro e w20 ⟨rfl, hb⟩; have BX20 := Aside0.mk (BX19.out.keep hb); have RW20 := Aside0.mk (RW19.out.keep hb); have RX20 := Aside0.mk (RX19.out.keep hb); have RG20 := Aside0.mk (RG19.out.keep hb); clear hb BX19 RW19 RX19 RG19; clear ha))
 go_ret
 exact ⟨rfl, BX20.out.bel⟩
end Go.Proofs.YtnbohlcibgfjaaaDoor.Gp
end
