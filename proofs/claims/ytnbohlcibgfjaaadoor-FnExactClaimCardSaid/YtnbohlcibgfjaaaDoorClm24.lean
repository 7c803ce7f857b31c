/- A part of the proof of RowFnExactClaim: each text's theorems that it needs, packed by shake.py, a program of this work; Lean checks them. -/
import Derived.Test.YtnbohlcibgfjaaaDoorClm3
import Derived.Test.YtnbohlcibgfjaaaDoorClm4
import Derived.Test.YtnbohlcibgfjaaaDoorClm5
import Derived.Test.YtnbohlcibgfjaaaDoorClm6
import Derived.Test.YtnbohlcibgfjaaaDoorClm9
import Derived.Test.YtnbohlcibgfjaaaDoorClm15
import Derived.Test.YtnbohlcibgfjaaaDoorClm18
import Derived.Test.YtnbohlcibgfjaaaDoorClm23
section
namespace Go.Proofs.YtnbohlcibgfjaaaDoor.Gp
open Go.RowKit Go.Proofs.YtnbohlcibgfjaaaDoorW.PrintWords Go.Proofs.YtnbohlcibgfjaaaDoorW.PrintLast Go.Proofs.YtnbohlcibgfjaaaDoorW.PrintMore
set_option linter.unusedVariables false
set_option linter.unusedSimpArgs false
structure LBx (w0 W : World) (A0 : Option Addr) (n0 c0 : Nat) (b0 : Int) (b1 : ByteArray) : Prop where
 h0 : W.heap[w0.heap.size]? = some (.cells #[.slice A0 n0 c0] 24 (0, 0))
 h1 : W.heap[w0.heap.size + 1]? = some (.cells #[.int .i64 b0, .string b1] 26 (0, 0))
 bel : Below w0.heap.size w0 W
theorem LBx.keep {w0 W W1 : World} {A0 : Option Addr} {n0 c0 : Nat} {b0 : Int} {b1 : ByteArray} (h : LBx w0 W A0 n0 c0 b0 b1) (b : Below W.heap.size W W1) : LBx w0 W1 A0 n0 c0 b0 b1 :=
 ⟨blk_below h.h0 b, blk_below h.h1 b, below_step h.bel b⟩
theorem LBx.init (w : World) (A0 : Option Addr) (n0 c0 : Nat) (b0 : Int) (b1 : ByteArray) : LBx w ((w.alloc (.cells #[.slice A0 n0 c0] 24)).alloc (.cells #[.int .i64 b0, .string b1] 26)) A0 n0 c0 b0 b1 :=
 ⟨blk_alloc (blk_new w _) _, blk_new_at (by simp), by repeat (first | exact Below.refl _ _ | apply below_alloc)⟩
theorem LBx.kept {w0 W W1 : World} {A0 : Option Addr} {n0 c0 : Nat} {b0 : Int} {b1 : ByteArray} {S : Nat → Prop} (h : LBx w0 W A0 n0 c0 b0 b1) (hk : Kept W W1 S) (h0 : ¬ S w0.heap.size) (h1 : ¬ S (w0.heap.size + 1)) (hb : Below w0.heap.size w0 W1) : LBx w0 W1 A0 n0 c0 b0 b1 :=
 ⟨blk_kept h.h0 hk h0, blk_kept h.h1 hk h1, hb⟩
theorem LBx.lo {w0 W : World} {A0 : Option Addr} {n0 c0 : Nat} {b0 : Int} {b1 : ByteArray} (h : LBx w0 W A0 n0 c0 b0 b1) : w0.heap.size + 2 ≤ W.heap.size := by have := blk_lt h.h1; omega
theorem LBx.stored1 {w0 W W' : World} {A0 : Option Addr} {n0 c0 g : Nat} {b0 : Int} {b1 : ByteArray} {y : Value} (h : LBx w0 W A0 n0 c0 b0 b1) (hW : W' = W.setCell ⟨g, 0, none⟩ y) (hg : w0.heap.size + 2 ≤ g) : LBx w0 W' A0 n0 c0 b0 b1 := by
 subst hW
 exact h.kept (kept_set1 (g := g) (j := 0) (y := y) (Kept.refl _ _)) (fun e => by omega) (fun e => by omega) (below_set h.bel (by show w0.heap.size ≤ g; omega))
theorem heldTable_at (k : Nat) (A : Option Addr) (n c : Nat) (l : List S32) (x r : Int) (w : World) (hn : n = l.length) (hr : Kd.C k32 w A l.length l) (hc : n ≤ c) (h : laws_heldTable.f k l x = some r) :
 Calls Tryd.prog 31 #[.agg #[.slice A n c], .int .i64 x] w fun e w' => e = .returned (.int .i64 r) ∧ Below w.heap.size w w' := by
 subst hn
 exact laws_heldTable.calls k A c l x r w hr hc h
def F27 (k : Nat) (l0 : List S154) (a1_0 : Int) (a1_1 : ByteArray) (a2 : Int) (a3 : Int) (a4 : Int) : Option Bool :=
 (laws_toTable.f k l0).bind fun tb => (spec_Claim.f k tb a1_0 a1_1 a2 a3 a4).bind fun p => (impl_Claim.f k tb a1_0 a1_1 a2 a3 a4).bind fun r => (laws_eqTable.f k r.1 p.1).bind fun e1 => (laws_eqTable.f k tb tb).bind fun e2 => (laws_markTable.f k tb 1).bind fun q => (laws_markTable.f k r.1 1).bind fun m => (laws_heldTable.f k m.2 1).bind fun hq =>
  if (((e1 = true ∧ e2 = true) ∧ r.2 = p.2) ∧ ¬ q.1 < 0) ∧ (¬ hq < 0 ∧ hq = m.1) then some true else none
def laws_FnExactClaim.f (k : Nat) (l0 : List S154) (a1_0 : Int) (a1_1 : ByteArray) (a2 : Int) (a3 : Int) (a4 : Int) : Option Bool :=
 (laws_szTable.f k l0 1048576).bind fun t1 => if t1 < 0 then some true else (laws_szKey.f a1_0 a1_1 t1).bind fun t2 => if t2 < 0 then some true else F27 k l0 a1_0 a1_1 a2 a3 a4
set_option maxHeartbeats 64000000 in
set_option maxRecDepth 100000 in
theorem laws_FnExactClaim.calls (k : Nat) (A0_0 : Option Addr) (c0_0 : Nat) (l0_0 : List S154) (a1_0 : Int) (a1_1 : ByteArray) (a2 : Int) (a3 : Int) (a4 : Int) (r : Bool) (w : World) (hG : GRes w) (hr0_0 : Kd.C k154 w A0_0 l0_0.length l0_0) (hc0_0 : l0_0.length ≤ c0_0) (h : laws_FnExactClaim.f k l0_0 a1_0 a1_1 a2 a3 a4 = some r) :
 Calls Tryd.prog 8 #[.agg #[.slice A0_0 l0_0.length c0_0], .agg #[.int .i64 a1_0, .string a1_1], .int .i64 a2, .int .i64 a3, .int .i64 a4] w fun e w' => e = .returned (.bool r) ∧ Below w.heap.size w w' := by
 have hu1 := Tryd.underlying36
 have hu2 := Tryd.underlying29
 have hu3 := Tryd.underlying32
 have hu4 := Tryd.underlying24
 have hu5 := Tryd.underlying26
 unfold laws_FnExactClaim.f at h
 obtain ⟨t1, ht1, h⟩ := Option.bind_eq_some_iff.mp h
 have HG := Aside0.mk hG
 have HR0 := Aside0.mk hr0_0
 have HC0 := Aside0.mk hc0_0
 have H1 := Aside0.mk ht1
 have H := Aside0.mk h
 have BX0 := Aside0.mk (LBx.init w A0_0 l0_0.length c0_0 a1_0 a1_1)
 clear hG hr0_0 hc0_0 ht1 h
 by_cases c1 : t1 < 0
 case pos =>
  have h := H.out
  rw [if_pos c1] at h
  obtain rfl := Option.some.inj h
  have c1b : decide (t1 < 0) = true := decide_eq_true c1
  clear h H c1
  go_enter Tryd.func8, Tryd.ntmps8
  go_wp2_with (first | (go_at_call 13; refine (laws_szTable.calls k A0_0 c0_0 l0_0 1048576 t1 _ (Kd.C_below HR0.out BX0.out.bel) HC0.out H1.out).mono ?_; rintro e w1 ⟨rfl, hb1⟩; have BX1 := Aside0.mk (BX0.out.keep hb1); have hk1 : w1.cell? ⟨w.heap.size + 1, 0, none⟩ = some (.int .i64 a1_0) := (blk_cell BX1.out.h1 0).trans rfl; have hk2 : w1.cell? ⟨w.heap.size + 1, 1, none⟩ = some (.string a1_1) := (blk_cell BX1.out.h1 1).trans rfl; clear hb1 BX0))
  go_ret
  exact ⟨rfl, BX1.out.bel⟩
 have h := H.out
 clear H
 rw [if_neg c1] at h
 have c1b : decide (t1 < 0) = false := decide_eq_false c1
 clear c1
 obtain ⟨t2, ht2, h⟩ := Option.bind_eq_some_iff.mp h
 have H2 := Aside0.mk ht2
 have H := Aside0.mk h
 clear ht2 h
 by_cases c2 : t2 < 0
 case pos =>
  have h := H.out
  rw [if_pos c2] at h
  obtain rfl := Option.some.inj h
  have c2b : decide (t2 < 0) = true := decide_eq_true c2
  clear h H c2
  go_enter Tryd.func8, Tryd.ntmps8
  go_wp2_with (first | (go_at_call 13; refine (laws_szTable.calls k A0_0 c0_0 l0_0 1048576 t1 _ (Kd.C_below HR0.out BX0.out.bel) HC0.out H1.out).mono ?_; rintro e w1 ⟨rfl, hb1⟩; have BX1 := Aside0.mk (BX0.out.keep hb1); have hk1 : w1.cell? ⟨w.heap.size + 1, 0, none⟩ = some (.int .i64 a1_0) := (blk_cell BX1.out.h1 0).trans rfl; have hk2 : w1.cell? ⟨w.heap.size + 1, 1, none⟩ = some (.string a1_1) := (blk_cell BX1.out.h1 1).trans rfl; clear hb1 BX0) | (go_at_call 14; refine (laws_szKey.calls a1_0 a1_1 t1 t2 _ H2.out).mono ?_; rintro e w2 ⟨rfl, hb2⟩; have BX2 := Aside0.mk (BX1.out.keep hb2); clear hb2 BX1 hk1 hk2))
  go_ret
  exact ⟨rfl, BX2.out.bel⟩
 have h := H.out
 clear H
 rw [if_neg c2] at h
 have c2b : decide (t2 < 0) = false := decide_eq_false c2
 clear c2
 unfold F27 at h
 replace h := Option.bind_eq_some_iff.mp h
 obtain ⟨tb, htb, h⟩ := h
 replace h := Option.bind_eq_some_iff.mp h
 obtain ⟨⟨rs, cs⟩, hp, h⟩ := h
 replace h := Option.bind_eq_some_iff.mp h
 obtain ⟨⟨ri, ci⟩, hs, h⟩ := h
 replace h := Option.bind_eq_some_iff.mp h
 obtain ⟨e1, he1, h⟩ := h
 replace h := Option.bind_eq_some_iff.mp h
 obtain ⟨e2, he2, h⟩ := h
 replace h := Option.bind_eq_some_iff.mp h
 obtain ⟨⟨q1, tb'⟩, hq, h⟩ := h
 replace h := Option.bind_eq_some_iff.mp h
 obtain ⟨⟨m1, ri'⟩, hm, h⟩ := h
 replace h := Option.bind_eq_some_iff.mp h
 obtain ⟨y, hy, h⟩ := h
 by_cases gd : (((e1 = true ∧ e2 = true) ∧ ci = cs) ∧ ¬ q1 < 0) ∧ (¬ y < 0 ∧ y = m1)
 case neg => rw [if_neg gd] at h; cases h
 rw [if_pos gd] at h
 obtain rfl := Option.some.inj h
 obtain ⟨⟨⟨⟨rfl, rfl⟩, rfl⟩, cq⟩, cy, rfl⟩ := gd
 have HTB := Aside0.mk htb
 have HP := Aside0.mk hp
 have HSf := Aside0.mk hs
 have HE1 := Aside0.mk he1
 have HE2 := Aside0.mk he2
 have HQ := Aside0.mk hq
 have HM := Aside0.mk hm
 have HY := Aside0.mk hy
 have cqb : decide (q1 < 0) = false := decide_eq_false cq
 have cyb : decide (y < 0) = false := decide_eq_false cy
 clear htb hp hs he1 he2 hq hm hy h cq cy
 try (obtain ⟨cs, hcs⟩ : ∃ c_, c_ = ci := ⟨_, rfl⟩; subst hcs)
 go_enter Tryd.func8, Tryd.ntmps8
 go_wp2_with (first | (go_at_call 13; refine (laws_szTable.calls k A0_0 c0_0 l0_0 1048576 t1 _ (Kd.C_below HR0.out BX0.out.bel) HC0.out H1.out).mono ?_; rintro e w1 ⟨rfl, hb1⟩; have BX1 := Aside0.mk (BX0.out.keep hb1); have hk1 : w1.cell? ⟨w.heap.size + 1, 0, none⟩ = some (.int .i64 a1_0) := (blk_cell BX1.out.h1 0).trans rfl; have hk2 : w1.cell? ⟨w.heap.size + 1, 1, none⟩ = some (.string a1_1) := (blk_cell BX1.out.h1 1).trans rfl; clear hb1 BX0) | (go_at_call 14; refine (laws_szKey.calls a1_0 a1_1 t1 t2 _ H2.out).mono ?_; rintro e w2 ⟨rfl, hb2⟩; have BX2 := Aside0.mk (BX1.out.keep hb2); clear hb2 BX1 hk1 hk2))
 refine start_ (n := 14) (S := fun w' => w'.cell? ⟨w.heap.size, 0, none⟩ = some (.slice A0_0 l0_0.length c0_0) ∧ w'.cell? ⟨w.heap.size + 1, 0, none⟩ = some (.int .i64 a1_0) ∧ w'.cell? ⟨w.heap.size + 1, 1, none⟩ = some (.string a1_1)) (ds := [12]) #[false, false, false, false, false, false, false, false, false, false, false, false, false, false] (by kernel_rfl) rfl rfl ⟨(blk_cell BX2.out.h0 0).trans rfl, (blk_cell BX2.out.h1 0).trans rfl, (blk_cell BX2.out.h1 1).trans rfl⟩ (fun hHeld => ?_)
 refine takeY (i := 0) (N := some 33) (v := ?_) (a' := ?_) #[true, false, false, false, false, false, false, false, false, false, false, false, false, false] rfl rfl (by kernel_rfl) ⟨by rfl, ?_⟩ hHeld ?_ ?_
 rotate_left
 · rintro w' ⟨s0, s1, s2⟩
   go_simp
   with_reducible rfl
 rotate_left
 · simp only [Act.put, sA_, i64_w, i32_w]
   rfl
 refine takeY (i := 2) (N := some 35) (v := ?_) (a' := ?_) #[true, false, true, false, false, false, false, false, false, false, false, false, false, false] rfl rfl (by kernel_rfl) ⟨by rfl, ?_⟩ hHeld ?_ ?_
 rotate_left
 · rintro w' ⟨s0, s1, s2⟩
   go_simp
   with_reducible rfl
 rotate_left
 · simp only [Act.put, sA_, i64_w, i32_w]
   rfl
 refine pureY (i := 4) (N := some 37) (v := ?_) (a' := ?_) #[true, false, true, false, true, false, false, false, false, false, false, false, false, false] rfl rfl (by kernel_rfl) ⟨by rfl, ?_⟩ ?_ ?_
 rotate_left
 · intro w'
   go_simp
   with_reducible rfl
 rotate_left
 · simp only [Act.put, sA_, i64_w, i32_w]
   rfl
 refine pureY (i := 5) (N := some 38) (v := ?_) (a' := ?_) #[true, false, true, false, true, true, false, false, false, false, false, false, false, false] rfl rfl (by kernel_rfl) ⟨by rfl, ?_⟩ ?_ ?_
 rotate_left
 · intro w'
   go_simp
   with_reducible rfl
 rotate_left
 · simp only [Act.put, sA_, i64_w, i32_w]
   rfl
 refine pureY (i := 6) (N := some 39) (v := ?_) (a' := ?_) #[true, false, true, false, true, true, true, false, false, false, false, false, false, false] rfl rfl (by kernel_rfl) ⟨by rfl, ?_⟩ ?_ ?_
 rotate_left
 · intro w'
   go_simp
   with_reducible rfl
 rotate_left
 · simp only [Act.put, sA_, i64_w, i32_w]
   rfl
 have HH0 := Aside0.mk hHeld
 refine join_ (σ := Nat × (Option Addr × Nat) × (Option Addr × Nat)) 2 #[true, true, true, true, true, true, true, true, true, true, true, true, false, false] (fun s => [(34, (.agg #[.slice s.2.1.1 tb.length s.2.1.2])), (36, (.agg #[.int .i64 a1_0, .string a1_1])), (40, (.tuple #[.agg #[(.slice s.2.2.1 rs.length s.2.2.2)], .int .i64 cs])), (32, (.tuple #[.agg #[(.slice s.2.2.1 rs.length s.2.2.2)], .int .i64 cs])), (41, (.agg #[(.slice s.2.2.1 rs.length s.2.2.2)])), (42, (.int .i64 cs)), (12, (.pointer (some ⟨s.1, 0, none⟩)))]) (fun s w' => w'.heap[s.1]? = some (.cells #[.slice none 0 0] 36 (0, 0)) ∧ w2.heap.size ≤ s.1 ∧ Below w2.drew.heap.size w2.drew w' ∧ Kd.C k32 w' s.2.1.1 tb.length tb ∧ tb.length ≤ s.2.1.2 ∧ Kd.S k32 32 w' w2.heap.size (fun _ => True) (.slice s.2.2.1 rs.length s.2.2.2) rs) ?_ ?_
 rotate_left
 ·
  intro hJ3
  refine join_ (σ := Nat × (Option Addr × Nat) × (Option Addr × Nat)) 6 #[true, true, true, true, true, true, true, false, false, false, false, true, false, false] (fun s => [(34, (.agg #[.slice s.2.1.1 tb.length s.2.1.2])), (36, (.agg #[.int .i64 a1_0, .string a1_1])), (12, (.pointer (some ⟨s.1, 0, none⟩)))]) (fun s w' => w'.heap[s.1]? = some (.cells #[.slice none 0 0] 36 (0, 0)) ∧ w2.heap.size ≤ s.1 ∧ Below w2.drew.heap.size w2.drew w' ∧ Kd.C k32 w' s.2.1.1 tb.length tb ∧ tb.length ≤ s.2.1.2) ?_ ?_
  rotate_left
  ·
   intro hJ2
   refine join_ (σ := Nat × (Option Addr × Nat) × (Option Addr × Nat)) 7 #[true, true, true, false, true, true, true, false, false, false, false, true, false, false] (fun s => [(34, (.agg #[.slice s.2.1.1 tb.length s.2.1.2])), (12, (.pointer (some ⟨s.1, 0, none⟩)))]) (fun s w' => w'.heap[s.1]? = some (.cells #[.slice none 0 0] 36 (0, 0)) ∧ w2.heap.size ≤ s.1 ∧ Below w2.drew.heap.size w2.drew w' ∧ Kd.C k32 w' s.2.1.1 tb.length tb ∧ tb.length ≤ s.2.1.2) ?_ ?_
   rotate_left
   ·
    intro hJ1
    refine join_ (σ := Nat × (Option Addr × Nat) × (Option Addr × Nat)) 8 #[true, false, true, false, true, true, true, false, false, false, false, true, false, false] (fun s => [(12, (.pointer (some ⟨s.1, 0, none⟩)))]) (fun s w' => w'.heap[s.1]? = some (.cells #[.slice none 0 0] 36 (0, 0)) ∧ w2.heap.size ≤ s.1 ∧ Below w2.drew.heap.size w2.drew w') ?_ ?_
    rotate_left
    ·
     intro hJ0
     refine two_ (i := 1) (j := 11) (Ni := some 34) (Nj := some 12) #[true, true, true, false, true, true, true, false, false, false, false, false, false, false] #[true, false, true, false, true, true, true, false, false, false, false, true, false, false] rfl rfl rfl rfl (by kernel_rfl) (by decide) (by decide) (fun K hK => ?_) (fun K hK => ?_)
     ·
      refine goes_ Tryd.func16 rfl rfl #[.agg #[.slice A0_0 l0_0.length c0_0]] rfl rfl rfl (by (try simp only [List.map_toArray, List.map_cons, List.map_nil, List.append_toArray, List.append_nil, List.nil_append, List.cons_append]); rfl) ?_
      refine (laws_toTable.calls k A0_0 c0_0 l0_0 tb _ (Kd.C_below HR0.out (below_drew1 BX2.out.bel)) HC0.out HTB.out).mono ?_
      rintro e u0a ⟨v_, rfl, hS_, hb_u0a⟩
      obtain ⟨At_, ct_, rfl⟩ := Kd.S_slice hS_
      have hCt_ := (Kd.S_reads' hS_).2.2
      have hct_ := (Kd.S_reads' hS_).2.1
      clear hS_
      refine ⟨_, rfl, ?_⟩
      refine hK.out _ _ ⟨pw_cell_below hb_u0a hHeld.1, pw_cell_below hb_u0a hHeld.2.1, pw_cell_below hb_u0a hHeld.2.2⟩ (fun hHeld => ?_)
      clear hK K
      refine two_ (i := 3) (j := 11) (Ni := some 36) (Nj := some 12) #[true, true, true, true, true, true, true, false, false, false, false, false, false, false] #[true, true, true, false, true, true, true, false, false, false, false, true, false, false] rfl rfl rfl rfl (by kernel_rfl) (by decide) (by decide) (fun K hK => ?_) (fun K hK => ?_)
      ·
       refine goes_ Tryd.func17 rfl rfl #[.agg #[.int .i64 a1_0, .string a1_1]] rfl rfl rfl (by (try simp only [List.map_toArray, List.map_cons, List.map_nil, List.append_toArray, List.append_nil, List.nil_append, List.cons_append]); rfl) ?_
       refine (laws_toKey.calls a1_0 a1_1 a1_0 a1_1 _ rfl).mono ?_
       rintro e u1a ⟨rfl, hb_u1a⟩
       refine ⟨_, rfl, ?_⟩
       refine hK.out _ _ ⟨pw_cell_below hb_u1a hHeld.1, pw_cell_below hb_u1a hHeld.2.1, pw_cell_below hb_u1a hHeld.2.2⟩ (fun hHeld => ?_)
       clear hK K
       refine two_ (i := 7) (j := 11) (Ni := some 40) (Nj := some 12) #[true, true, true, true, true, true, true, true, false, false, false, false, false, false] #[true, true, true, true, true, true, true, false, false, false, false, true, false, false] rfl rfl rfl rfl (by kernel_rfl) (by decide) (by decide) (fun K hK => ?_) (fun K hK => ?_)
       ·
        refine goes_ Tryd.func40 rfl rfl #[.agg #[.slice At_ tb.length ct_], .agg #[.int .i64 a1_0, .string a1_1], .int .i64 a2, .int .i64 a3, .int .i64 a4] rfl rfl rfl (by (try simp only [List.map_toArray, List.map_cons, List.map_nil, List.append_toArray, List.append_nil, List.nil_append, List.cons_append]); rfl) ?_
        refine (spec_Claim.calls k At_ ct_ tb a1_0 a1_1 a2 a3 a4 rs cs _ (Kd.C_below hCt_ hb_u1a) hct_ HP.out).mono ?_
        rintro e u2a ⟨v_, rfl, hR_, hb_u2a⟩
        obtain ⟨Ad_, cd_, rfl⟩ := Kd.S_slice hR_
        refine ⟨_, rfl, ?_⟩
        refine hK.out _ _ ⟨pw_cell_below hb_u2a hHeld.1, pw_cell_below hb_u2a hHeld.2.1, pw_cell_below hb_u2a hHeld.2.2⟩ (fun hHeld => ?_)
        clear hK K
        refine norm_ (a' := ?_) ?_ ?_
        rotate_left
        · simp only [putAll, Act.put, sA_]
          rfl
        refine pureY (i := 8) (N := some 32) (v := ?_) (a' := ?_) #[true, true, true, true, true, true, true, true, true, false, false, false, false, false] rfl rfl (by kernel_rfl) ⟨by rfl, ?_⟩ ?_ ?_
        rotate_left
        · intro w'
          go_simp
          with_reducible rfl
        rotate_left
        · simp only [Act.put, sA_, i64_w, i32_w]
          rfl
        refine pureY (i := 9) (N := some 41) (v := ?_) (a' := ?_) #[true, true, true, true, true, true, true, true, true, true, false, false, false, false] rfl rfl (by kernel_rfl) ⟨by rfl, ?_⟩ ?_ ?_
        rotate_left
        · intro w'
          go_simp
          with_reducible rfl
        rotate_left
        · simp only [Act.put, sA_, i64_w, i32_w]
          rfl
        refine pureY (i := 10) (N := some 42) (v := ?_) (a' := ?_) #[true, true, true, true, true, true, true, true, true, true, true, false, false, false] rfl rfl (by kernel_rfl) ⟨by rfl, ?_⟩ ?_ ?_
        rotate_left
        · intro w'
          go_simp
          with_reducible rfl
        rotate_left
        · simp only [Act.put, sA_, i64_w, i32_w]
          rfl
        refine one_ (i := 11) (N := some 12) #[true, true, true, true, true, true, true, true, true, true, true, true, false, false] rfl rfl (by kernel_rfl) (by decide) (fun K hK => ?_)
        refine value_ (v := .pointer (some ⟨u2a.heap.size, 0, none⟩)) (w1 := u2a.alloc (.cells #[.slice none 0 0] 36)) (by rfl) rfl ?_ ?_
        · go_simp
        refine hK.out _ _ ⟨pw_cell_below (below_alloc (Below.refl _ _) _) hHeld.1, pw_cell_below (below_alloc (Below.refl _ _) _) hHeld.2.1, pw_cell_below (below_alloc (Below.refl _ _) _) hHeld.2.2⟩ (fun hHeld => ?_)
        clear hK K
        exact norm_ (by first | (simp only [putAll, Act.put, sA_]; done) | (simp only [putAll, Act.put, sA_]; rfl)) (hJ3 (u2a.heap.size, (At_, ct_), (Ad_, cd_)) _ ⟨blk_new _ _, (below_size (below_step (below_drew1 (Below.refl _ _)) (below_step (below_step hb_u0a hb_u1a) hb_u2a))), below_alloc (below_step (below_step hb_u0a hb_u1a) hb_u2a) _, Kd.C_below (Kd.C_below (Kd.C_below hCt_ hb_u1a) hb_u2a) (below_alloc (Below.refl _ _) _), hct_, Kd.S_below (Kd.S_lower hR_ (below_size (below_step (below_drew1 (Below.refl _ _)) (below_step hb_u0a hb_u1a)))) (below_alloc (Below.refl _ _) _)⟩)
       refine value_ (v := .pointer (some ⟨u1a.heap.size, 0, none⟩)) (w1 := u1a.alloc (.cells #[.slice none 0 0] 36)) (by rfl) rfl ?_ ?_
       · go_simp
       refine hK.out _ _ ⟨pw_cell_below (below_alloc (Below.refl _ _) _) hHeld.1, pw_cell_below (below_alloc (Below.refl _ _) _) hHeld.2.1, pw_cell_below (below_alloc (Below.refl _ _) _) hHeld.2.2⟩ (fun hHeld => ?_)
       clear hK K
       exact norm_ (by first | (simp only [putAll, Act.put, sA_]; done) | (simp only [putAll, Act.put, sA_]; rfl)) (hJ2 (u1a.heap.size, (At_, ct_), (none, 0)) _ ⟨blk_new _ _, (below_size (below_step (below_drew1 (Below.refl _ _)) (below_step hb_u0a hb_u1a))), below_alloc (below_step hb_u0a hb_u1a) _, Kd.C_below (Kd.C_below hCt_ hb_u1a) (below_alloc (Below.refl _ _) _), hct_⟩)
      refine value_ (v := .pointer (some ⟨u0a.heap.size, 0, none⟩)) (w1 := u0a.alloc (.cells #[.slice none 0 0] 36)) (by rfl) rfl ?_ ?_
      · go_simp
      refine hK.out _ _ ⟨pw_cell_below (below_alloc (Below.refl _ _) _) hHeld.1, pw_cell_below (below_alloc (Below.refl _ _) _) hHeld.2.1, pw_cell_below (below_alloc (Below.refl _ _) _) hHeld.2.2⟩ (fun hHeld => ?_)
      clear hK K
      exact norm_ (by first | (simp only [putAll, Act.put, sA_]; done) | (simp only [putAll, Act.put, sA_]; rfl)) (hJ1 (u0a.heap.size, (At_, ct_), (none, 0)) _ ⟨blk_new _ _, (below_size (below_step (below_drew1 (Below.refl _ _)) hb_u0a)), below_alloc hb_u0a _, Kd.C_below hCt_ (below_alloc (Below.refl _ _) _), hct_⟩)
     refine value_ (v := .pointer (some ⟨w2.drew.heap.size, 0, none⟩)) (w1 := w2.drew.alloc (.cells #[.slice none 0 0] 36)) (by rfl) rfl ?_ ?_
     · go_simp
     refine hK.out _ _ ⟨pw_cell_below (below_alloc (Below.refl _ _) _) hHeld.1, pw_cell_below (below_alloc (Below.refl _ _) _) hHeld.2.1, pw_cell_below (below_alloc (Below.refl _ _) _) hHeld.2.2⟩ (fun hHeld => ?_)
     clear hK K
     exact norm_ (by first | (simp only [putAll, Act.put, sA_]; done) | (simp only [putAll, Act.put, sA_]; rfl)) (hJ0 (w2.drew.heap.size, (none, 0), (none, 0)) _ ⟨blk_new _ _, (below_size (below_step (below_drew1 (Below.refl _ _)) (Below.refl _ _))), below_alloc (Below.refl _ _) _⟩)
    rintro ⟨gw_, ⟨At0_, ct0_⟩, ⟨Ad0_, cd0_⟩⟩ wj_ ⟨hg_, hge_, hb_⟩
    refine norm_ (a' := ?_) ?_ ?_
    rotate_left
    · simp only [putAll, Act.put, sA_]
      rfl
    refine one_ (i := 1) (N := some 34) #[true, true, true, false, true, true, true, false, false, false, false, true, false, false] rfl rfl (by kernel_rfl) (by decide) (fun K hK => ?_)
    refine goes_ Tryd.func16 rfl rfl #[.agg #[.slice A0_0 l0_0.length c0_0]] rfl rfl rfl (by (try simp only [List.map_toArray, List.map_cons, List.map_nil, List.append_toArray, List.append_nil, List.nil_append, List.cons_append]); rfl) ?_
    refine (laws_toTable.calls k A0_0 c0_0 l0_0 tb _ (Kd.C_below HR0.out (below_step BX2.out.bel (below_step (below_drew1 (Below.refl _ _)) hb_))) HC0.out HTB.out).mono ?_
    rintro e u0a ⟨v_, rfl, hS_, hb_u0a⟩
    obtain ⟨At_, ct_, rfl⟩ := Kd.S_slice hS_
    have hCt_ := (Kd.S_reads' hS_).2.2
    have hct_ := (Kd.S_reads' hS_).2.1
    clear hS_
    refine ⟨_, rfl, ?_⟩
    refine hK.out _ _ ⟨pw_cell_below (below_step hb_ hb_u0a) HH0.out.1, pw_cell_below (below_step hb_ hb_u0a) HH0.out.2.1, pw_cell_below (below_step hb_ hb_u0a) HH0.out.2.2⟩ (fun hHeld => ?_)
    clear hK K
    exact norm_ (by first | (simp only [putAll, Act.put, sA_]; done) | (simp only [putAll, Act.put, sA_]; rfl)) (hJ1 (gw_, (At_, ct_), (none, 0)) _ ⟨blk_below hg_ hb_u0a, hge_, below_step hb_ hb_u0a, hCt_, hct_⟩)
   rintro ⟨gw_, ⟨At0_, ct0_⟩, ⟨Ad0_, cd0_⟩⟩ wj_ ⟨hg_, hge_, hb_, hC_, hc_⟩
   refine norm_ (a' := ?_) ?_ ?_
   rotate_left
   · simp only [putAll, Act.put, sA_]
     rfl
   refine one_ (i := 3) (N := some 36) #[true, true, true, true, true, true, true, false, false, false, false, true, false, false] rfl rfl (by kernel_rfl) (by decide) (fun K hK => ?_)
   refine goes_ Tryd.func17 rfl rfl #[.agg #[.int .i64 a1_0, .string a1_1]] rfl rfl rfl (by (try simp only [List.map_toArray, List.map_cons, List.map_nil, List.append_toArray, List.append_nil, List.nil_append, List.cons_append]); rfl) ?_
   refine (laws_toKey.calls a1_0 a1_1 a1_0 a1_1 _ rfl).mono ?_
   rintro e u1a ⟨rfl, hb_u1a⟩
   refine ⟨_, rfl, ?_⟩
   refine hK.out _ _ ⟨pw_cell_below (below_step hb_ hb_u1a) HH0.out.1, pw_cell_below (below_step hb_ hb_u1a) HH0.out.2.1, pw_cell_below (below_step hb_ hb_u1a) HH0.out.2.2⟩ (fun hHeld => ?_)
   clear hK K
   exact norm_ (by first | (simp only [putAll, Act.put, sA_]; done) | (simp only [putAll, Act.put, sA_]; rfl)) (hJ2 (gw_, (At0_, ct0_), (none, 0)) _ ⟨blk_below hg_ hb_u1a, hge_, below_step hb_ hb_u1a, Kd.C_below hC_ hb_u1a, hc_⟩)
  rintro ⟨gw_, ⟨At0_, ct0_⟩, ⟨Ad0_, cd0_⟩⟩ wj_ ⟨hg_, hge_, hb_, hC_, hc_⟩
  refine norm_ (a' := ?_) ?_ ?_
  rotate_left
  · simp only [putAll, Act.put, sA_]
    rfl
  refine one_ (i := 7) (N := some 40) #[true, true, true, true, true, true, true, true, false, false, false, true, false, false] rfl rfl (by kernel_rfl) (by decide) (fun K hK => ?_)
  refine goes_ Tryd.func40 rfl rfl #[.agg #[.slice At0_ tb.length ct0_], .agg #[.int .i64 a1_0, .string a1_1], .int .i64 a2, .int .i64 a3, .int .i64 a4] rfl rfl rfl (by (try simp only [List.map_toArray, List.map_cons, List.map_nil, List.append_toArray, List.append_nil, List.nil_append, List.cons_append]); rfl) ?_
  refine (spec_Claim.calls k At0_ ct0_ tb a1_0 a1_1 a2 a3 a4 rs cs _ hC_ hc_ HP.out).mono ?_
  rintro e u2a ⟨v_, rfl, hR_, hb_u2a⟩
  obtain ⟨Ad_, cd_, rfl⟩ := Kd.S_slice hR_
  refine ⟨_, rfl, ?_⟩
  refine hK.out _ _ ⟨pw_cell_below (below_step hb_ hb_u2a) HH0.out.1, pw_cell_below (below_step hb_ hb_u2a) HH0.out.2.1, pw_cell_below (below_step hb_ hb_u2a) HH0.out.2.2⟩ (fun hHeld => ?_)
  clear hK K
  refine norm_ (a' := ?_) ?_ ?_
  rotate_left
  · simp only [putAll, Act.put, sA_]
    rfl
  refine pureY (i := 8) (N := some 32) (v := ?_) (a' := ?_) #[true, true, true, true, true, true, true, true, true, false, false, true, false, false] rfl rfl (by kernel_rfl) ⟨by rfl, ?_⟩ ?_ ?_
  rotate_left
  · intro w'
    go_simp
    with_reducible rfl
  rotate_left
  · simp only [Act.put, sA_, i64_w, i32_w]
    rfl
  refine pureY (i := 9) (N := some 41) (v := ?_) (a' := ?_) #[true, true, true, true, true, true, true, true, true, true, false, true, false, false] rfl rfl (by kernel_rfl) ⟨by rfl, ?_⟩ ?_ ?_
  rotate_left
  · intro w'
    go_simp
    with_reducible rfl
  rotate_left
  · simp only [Act.put, sA_, i64_w, i32_w]
    rfl
  refine pureY (i := 10) (N := some 42) (v := ?_) (a' := ?_) #[true, true, true, true, true, true, true, true, true, true, true, true, false, false] rfl rfl (by kernel_rfl) ⟨by rfl, ?_⟩ ?_ ?_
  rotate_left
  · intro w'
    go_simp
    with_reducible rfl
  rotate_left
  · simp only [Act.put, sA_, i64_w, i32_w]
    rfl
  exact norm_ (by first | (simp only [putAll, Act.put, sA_]; done) | (simp only [putAll, Act.put, sA_]; rfl)) (hJ3 (gw_, (At0_, ct0_), (Ad_, cd_)) _ ⟨blk_below hg_ hb_u2a, hge_, below_step hb_ hb_u2a, Kd.C_below hC_ hb_u2a, hc_, Kd.S_lower hR_ (below_size (below_step (below_drew1 (Below.refl _ _)) hb_))⟩)
 rintro ⟨gw, ⟨_, _⟩, ⟨Ad, cd⟩⟩ wj ⟨hg, hge, hb, _, _, hR⟩
 refine norm_ (a' := ?_) ?_ ?_
 rotate_left
 · simp only [putAll, Act.put, sA_]
   rfl
 refine last_ (i := 12) (N := none) #[true, true, true, true, true, true, true, true, true, true, true, true, true, false] rfl rfl (by kernel_rfl) (by decide) (fun K hK => ?_)
 have hc0 : wj.cell? ⟨gw, 0, none⟩ = some (.slice none 0 0) := (blk_cell hg 0).trans rfl
 have hf0 := blk_frozen hg 0
 refine skip_ (w1 := (wj.setCell ⟨gw, 0, none⟩ (.slice Ad rs.length cd))) (by rfl) rfl ?_ ?_
 · go_simp
 clear hc0 hf0
 refine hK.out _ _ ?_
 clear hK K
 refine pureY (i := 13) (N := some 13) (v := ?_) (a' := ?_) #[true, true, true, true, true, true, true, true, true, true, true, true, true, true] rfl rfl (by kernel_rfl) ⟨by rfl, ?_⟩ ?_ ?_
 rotate_left
 · intro w'
   go_simp
   with_reducible rfl
 rotate_left
 · simp only [Act.put, sA_, i64_w, i32_w]
   rfl
 refine done_ (by kernel_rfl) ?_
 obtain ⟨w3, hw3⟩ : ∃ W_ : World, W_ = (wj.setCell ⟨gw, 0, none⟩ (.slice Ad rs.length cd)) := ⟨_, rfl⟩
 rw [← hw3]
 have hbj := below_step (below_drew1 (Below.refl _ _)) hb
 have BX3 := Aside0.mk ((BX2.out.keep hbj).stored1 hw3 (Nat.le_trans BX2.out.lo hge))
 have RW3 := Aside0.mk (show ResS k32 32 36 w w3 w2.heap.size w3.heap.size gw #[(.slice Ad rs.length cd)] (.slice Ad rs.length cd) rs from ResS.stored1 hw3 hg hge (below_size BX2.out.bel) hR (by decide))
 clear hw3 hb hbj hR hg hge HH0 BX2
 have hk1 : w3.cell? ⟨w.heap.size, 0, none⟩ = some (.slice A0_0 l0_0.length c0_0) := (blk_cell BX3.out.h0 0).trans rfl
 go_wp2_with (go_at_call 16; refine (laws_toTable.calls k A0_0 c0_0 l0_0 tb _ (Kd.C_below HR0.out BX3.out.bel) HC0.out HTB.out).mono ?_; rintro e w4 ⟨v_, rfl, hS, hb4⟩; obtain ⟨Ax, cx, rfl⟩ := Kd.S_slice hS; have BX4 := Aside0.mk (BX3.out.keep hb4); have RW4 := Aside0.mk (RW3.out.keep hb4); have HS4 := Aside0.mk hS; have HB3 := Aside0.mk BX3.out.bel; have HB4 := Aside0.mk hb4; have HLO0 := Aside0.mk BX3.out.lo; clear hS hb4 BX3 RW3 hk1)
 obtain ⟨w5, hw5⟩ : ∃ W_ : World, W_ = w4.alloc (.cells #[.slice Ax tb.length cx] 36) := ⟨_, rfl⟩
 rw [← hw5]
 have hb5 : Below w4.heap.size w4 w5 := by rw [hw5]; exact below_alloc (Below.refl _ _) _
 have hx5 : w5.heap[w4.heap.size]? = some (.cells #[.slice Ax tb.length cx] 36 (0, 0)) := by rw [hw5]; exact blk_new _ _
 have BX5 := Aside0.mk (BX4.out.keep hb5)
 have RW5 := Aside0.mk (RW4.out.keep hb5)
 have RX5 := Aside0.mk (show ResS k32 32 36 w w5 w3.heap.size w5.heap.size w4.heap.size #[.slice Ax tb.length cx] (.slice Ax tb.length cx) tb from ResS.mk2 hx5 HB4.out.size (blk_lt hx5) rfl (below_size HB3.out) (Kd.S_below HS4.out hb5) (by decide))
 clear hw5 hb5 hx5 BX4 RW4 HS4
 refine start_ (n := 13) (S := fun w' => w'.cell? ⟨w4.heap.size, 0, none⟩ = some (.slice Ax tb.length cx) ∧ w'.cell? ⟨w.heap.size + 1, 0, none⟩ = some (.int .i64 a1_0) ∧ w'.cell? ⟨w.heap.size + 1, 1, none⟩ = some (.string a1_1)) (ds := [11]) #[false, false, false, false, false, false, false, false, false, false, false, false, false] (by kernel_rfl) rfl rfl ⟨(blk_cell RX5.out.b 0).trans rfl, (blk_cell BX5.out.h1 0).trans rfl, (blk_cell BX5.out.h1 1).trans rfl⟩ (fun hHeld => ?_)
 refine takeY (i := 0) (N := some 46) (v := ?_) (a' := ?_) #[true, false, false, false, false, false, false, false, false, false, false, false, false] rfl rfl (by kernel_rfl) ⟨by rfl, ?_⟩ hHeld ?_ ?_
 rotate_left
 · rintro w' ⟨s0, s1, s2⟩
   go_simp
   with_reducible rfl
 rotate_left
 · simp only [Act.put, sA_, i64_w, i32_w]
   rfl
 refine takeY (i := 1) (N := some 47) (v := ?_) (a' := ?_) #[true, true, false, false, false, false, false, false, false, false, false, false, false] rfl rfl (by kernel_rfl) ⟨by rfl, ?_⟩ hHeld ?_ ?_
 rotate_left
 · rintro w' ⟨s0, s1, s2⟩
   go_simp
   with_reducible rfl
 rotate_left
 · simp only [Act.put, sA_, i64_w, i32_w]
   rfl
 refine pureY (i := 3) (N := some 49) (v := ?_) (a' := ?_) #[true, true, false, true, false, false, false, false, false, false, false, false, false] rfl rfl (by kernel_rfl) ⟨by rfl, ?_⟩ ?_ ?_
 rotate_left
 · intro w'
   go_simp
   with_reducible rfl
 rotate_left
 · simp only [Act.put, sA_, i64_w, i32_w]
   rfl
 refine pureY (i := 4) (N := some 50) (v := ?_) (a' := ?_) #[true, true, false, true, true, false, false, false, false, false, false, false, false] rfl rfl (by kernel_rfl) ⟨by rfl, ?_⟩ ?_ ?_
 rotate_left
 · intro w'
   go_simp
   with_reducible rfl
 rotate_left
 · simp only [Act.put, sA_, i64_w, i32_w]
   rfl
 refine pureY (i := 5) (N := some 51) (v := ?_) (a' := ?_) #[true, true, false, true, true, true, false, false, false, false, false, false, false] rfl rfl (by kernel_rfl) ⟨by rfl, ?_⟩ ?_ ?_
 rotate_left
 · intro w'
   go_simp
   with_reducible rfl
 rotate_left
 · simp only [Act.put, sA_, i64_w, i32_w]
   rfl
 have HH0 := Aside0.mk hHeld
 refine join_ (σ := Nat × (Option Addr × Nat) × (Option Addr × Nat)) 2 #[true, true, true, true, true, true, true, true, true, true, true, false, false] (fun s => [(48, (.agg #[.int .i64 a1_0, .string a1_1])), (52, (.tuple #[.agg #[(.slice s.2.2.1 ri.length s.2.2.2)], .int .i64 cs])), (45, (.tuple #[.agg #[(.slice s.2.2.1 ri.length s.2.2.2)], .int .i64 cs])), (53, (.agg #[(.slice s.2.2.1 ri.length s.2.2.2)])), (54, (.int .i64 cs)), (15, (.pointer (some ⟨s.1, 0, none⟩)))]) (fun s w' => w'.heap[s.1]? = some (.cells #[.slice none 0 0] 36 (0, 0)) ∧ w5.heap.size ≤ s.1 ∧ Below w5.drew.heap.size w5.drew w' ∧ Kd.S k32 32 w' w5.heap.size (fun _ => True) (.slice s.2.2.1 ri.length s.2.2.2) ri) ?_ ?_
 rotate_left
 ·
  intro hJ2
  refine join_ (σ := Nat × (Option Addr × Nat) × (Option Addr × Nat)) 6 #[true, true, true, true, true, true, false, false, false, false, true, false, false] (fun s => [(48, (.agg #[.int .i64 a1_0, .string a1_1])), (15, (.pointer (some ⟨s.1, 0, none⟩)))]) (fun s w' => w'.heap[s.1]? = some (.cells #[.slice none 0 0] 36 (0, 0)) ∧ w5.heap.size ≤ s.1 ∧ Below w5.drew.heap.size w5.drew w') ?_ ?_
  rotate_left
  ·
   intro hJ1
   refine join_ (σ := Nat × (Option Addr × Nat) × (Option Addr × Nat)) 7 #[true, true, false, true, true, true, false, false, false, false, true, false, false] (fun s => [(15, (.pointer (some ⟨s.1, 0, none⟩)))]) (fun s w' => w'.heap[s.1]? = some (.cells #[.slice none 0 0] 36 (0, 0)) ∧ w5.heap.size ≤ s.1 ∧ Below w5.drew.heap.size w5.drew w') ?_ ?_
   rotate_left
   ·
    intro hJ0
    refine two_ (i := 2) (j := 10) (Ni := some 48) (Nj := some 15) #[true, true, true, true, true, true, false, false, false, false, false, false, false] #[true, true, false, true, true, true, false, false, false, false, true, false, false] rfl rfl rfl rfl (by kernel_rfl) (by decide) (by decide) (fun K hK => ?_) (fun K hK => ?_)
    ·
     refine goes_ Tryd.func17 rfl rfl #[.agg #[.int .i64 a1_0, .string a1_1]] rfl rfl rfl (by (try simp only [List.map_toArray, List.map_cons, List.map_nil, List.append_toArray, List.append_nil, List.nil_append, List.cons_append]); rfl) ?_
     refine (laws_toKey.calls a1_0 a1_1 a1_0 a1_1 _ rfl).mono ?_
     rintro e u0b ⟨rfl, hb_u0b⟩
     refine ⟨_, rfl, ?_⟩
     refine hK.out _ _ ⟨pw_cell_below hb_u0b hHeld.1, pw_cell_below hb_u0b hHeld.2.1, pw_cell_below hb_u0b hHeld.2.2⟩ (fun hHeld => ?_)
     clear hK K
     refine two_ (i := 6) (j := 10) (Ni := some 52) (Nj := some 15) #[true, true, true, true, true, true, true, false, false, false, false, false, false] #[true, true, true, true, true, true, false, false, false, false, true, false, false] rfl rfl rfl rfl (by kernel_rfl) (by decide) (by decide) (fun K hK => ?_) (fun K hK => ?_)
     ·
      refine goes_ Tryd.func41 rfl rfl #[.agg #[.slice Ax tb.length cx], .agg #[.int .i64 a1_0, .string a1_1], .int .i64 a2, .int .i64 a3, .int .i64 a4] rfl rfl rfl (by (try simp only [List.map_toArray, List.map_cons, List.map_nil, List.append_toArray, List.append_nil, List.nil_append, List.cons_append]); rfl) ?_
      refine (impl_Claim.calls k Ax cx tb a1_0 a1_1 a2 a3 a4 ri cs _ (HG.out.below (below_step BX5.out.bel (below_step (below_drew1 (Below.refl _ _)) hb_u0b))) (Kd.C_below (Kd.C_drew RX5.out.reads.2.2) hb_u0b) RX5.out.reads.2.1 HSf.out).mono ?_
      rintro e u1b ⟨v_, rfl, hR_, hb_u1b⟩
      obtain ⟨Ad_, cd_, rfl⟩ := Kd.S_slice hR_
      refine ⟨_, rfl, ?_⟩
      refine hK.out _ _ ⟨pw_cell_below hb_u1b hHeld.1, pw_cell_below hb_u1b hHeld.2.1, pw_cell_below hb_u1b hHeld.2.2⟩ (fun hHeld => ?_)
      clear hK K
      refine norm_ (a' := ?_) ?_ ?_
      rotate_left
      · simp only [putAll, Act.put, sA_]
        rfl
      refine pureY (i := 7) (N := some 45) (v := ?_) (a' := ?_) #[true, true, true, true, true, true, true, true, false, false, false, false, false] rfl rfl (by kernel_rfl) ⟨by rfl, ?_⟩ ?_ ?_
      rotate_left
      · intro w'
        go_simp
        with_reducible rfl
      rotate_left
      · simp only [Act.put, sA_, i64_w, i32_w]
        rfl
      refine pureY (i := 8) (N := some 53) (v := ?_) (a' := ?_) #[true, true, true, true, true, true, true, true, true, false, false, false, false] rfl rfl (by kernel_rfl) ⟨by rfl, ?_⟩ ?_ ?_
      rotate_left
      · intro w'
        go_simp
        with_reducible rfl
      rotate_left
      · simp only [Act.put, sA_, i64_w, i32_w]
        rfl
      refine pureY (i := 9) (N := some 54) (v := ?_) (a' := ?_) #[true, true, true, true, true, true, true, true, true, true, false, false, false] rfl rfl (by kernel_rfl) ⟨by rfl, ?_⟩ ?_ ?_
      rotate_left
      · intro w'
        go_simp
        with_reducible rfl
      rotate_left
      · simp only [Act.put, sA_, i64_w, i32_w]
        rfl
      refine one_ (i := 10) (N := some 15) #[true, true, true, true, true, true, true, true, true, true, true, false, false] rfl rfl (by kernel_rfl) (by decide) (fun K hK => ?_)
      refine value_ (v := .pointer (some ⟨u1b.heap.size, 0, none⟩)) (w1 := u1b.alloc (.cells #[.slice none 0 0] 36)) (by rfl) rfl ?_ ?_
      · go_simp
      refine hK.out _ _ ⟨pw_cell_below (below_alloc (Below.refl _ _) _) hHeld.1, pw_cell_below (below_alloc (Below.refl _ _) _) hHeld.2.1, pw_cell_below (below_alloc (Below.refl _ _) _) hHeld.2.2⟩ (fun hHeld => ?_)
      clear hK K
      exact norm_ (by first | (simp only [putAll, Act.put, sA_]; done) | (simp only [putAll, Act.put, sA_]; rfl)) (hJ2 (u1b.heap.size, (none, 0), (Ad_, cd_)) _ ⟨blk_new _ _, (below_size (below_step (below_drew1 (Below.refl _ _)) (below_step hb_u0b hb_u1b))), below_alloc (below_step hb_u0b hb_u1b) _, Kd.S_below (Kd.S_lower hR_ (below_size (below_step (below_drew1 (Below.refl _ _)) hb_u0b))) (below_alloc (Below.refl _ _) _)⟩)
     refine value_ (v := .pointer (some ⟨u0b.heap.size, 0, none⟩)) (w1 := u0b.alloc (.cells #[.slice none 0 0] 36)) (by rfl) rfl ?_ ?_
     · go_simp
     refine hK.out _ _ ⟨pw_cell_below (below_alloc (Below.refl _ _) _) hHeld.1, pw_cell_below (below_alloc (Below.refl _ _) _) hHeld.2.1, pw_cell_below (below_alloc (Below.refl _ _) _) hHeld.2.2⟩ (fun hHeld => ?_)
     clear hK K
     exact norm_ (by first | (simp only [putAll, Act.put, sA_]; done) | (simp only [putAll, Act.put, sA_]; rfl)) (hJ1 (u0b.heap.size, (none, 0), (none, 0)) _ ⟨blk_new _ _, (below_size (below_step (below_drew1 (Below.refl _ _)) hb_u0b)), below_alloc hb_u0b _⟩)
    refine value_ (v := .pointer (some ⟨w5.drew.heap.size, 0, none⟩)) (w1 := w5.drew.alloc (.cells #[.slice none 0 0] 36)) (by rfl) rfl ?_ ?_
    · go_simp
    refine hK.out _ _ ⟨pw_cell_below (below_alloc (Below.refl _ _) _) hHeld.1, pw_cell_below (below_alloc (Below.refl _ _) _) hHeld.2.1, pw_cell_below (below_alloc (Below.refl _ _) _) hHeld.2.2⟩ (fun hHeld => ?_)
    clear hK K
    exact norm_ (by first | (simp only [putAll, Act.put, sA_]; done) | (simp only [putAll, Act.put, sA_]; rfl)) (hJ0 (w5.drew.heap.size, (none, 0), (none, 0)) _ ⟨blk_new _ _, (below_size (below_step (below_drew1 (Below.refl _ _)) (Below.refl _ _))), below_alloc (Below.refl _ _) _⟩)
   rintro ⟨gw_, ⟨At0_, ct0_⟩, ⟨Ad0_, cd0_⟩⟩ wj_ ⟨hg_, hge_, hb_⟩
   refine norm_ (a' := ?_) ?_ ?_
   rotate_left
   · simp only [putAll, Act.put, sA_]
     rfl
   refine one_ (i := 2) (N := some 48) #[true, true, true, true, true, true, false, false, false, false, true, false, false] rfl rfl (by kernel_rfl) (by decide) (fun K hK => ?_)
   refine goes_ Tryd.func17 rfl rfl #[.agg #[.int .i64 a1_0, .string a1_1]] rfl rfl rfl (by (try simp only [List.map_toArray, List.map_cons, List.map_nil, List.append_toArray, List.append_nil, List.nil_append, List.cons_append]); rfl) ?_
   refine (laws_toKey.calls a1_0 a1_1 a1_0 a1_1 _ rfl).mono ?_
   rintro e u0b ⟨rfl, hb_u0b⟩
   refine ⟨_, rfl, ?_⟩
   refine hK.out _ _ ⟨pw_cell_below (below_step hb_ hb_u0b) HH0.out.1, pw_cell_below (below_step hb_ hb_u0b) HH0.out.2.1, pw_cell_below (below_step hb_ hb_u0b) HH0.out.2.2⟩ (fun hHeld => ?_)
   clear hK K
   exact norm_ (by first | (simp only [putAll, Act.put, sA_]; done) | (simp only [putAll, Act.put, sA_]; rfl)) (hJ1 (gw_, (none, 0), (none, 0)) _ ⟨blk_below hg_ hb_u0b, hge_, below_step hb_ hb_u0b⟩)
  rintro ⟨gw_, ⟨At0_, ct0_⟩, ⟨Ad0_, cd0_⟩⟩ wj_ ⟨hg_, hge_, hb_⟩
  refine norm_ (a' := ?_) ?_ ?_
  rotate_left
  · simp only [putAll, Act.put, sA_]
    rfl
  refine one_ (i := 6) (N := some 52) #[true, true, true, true, true, true, true, false, false, false, true, false, false] rfl rfl (by kernel_rfl) (by decide) (fun K hK => ?_)
  refine goes_ Tryd.func41 rfl rfl #[.agg #[.slice Ax tb.length cx], .agg #[.int .i64 a1_0, .string a1_1], .int .i64 a2, .int .i64 a3, .int .i64 a4] rfl rfl rfl (by (try simp only [List.map_toArray, List.map_cons, List.map_nil, List.append_toArray, List.append_nil, List.nil_append, List.cons_append]); rfl) ?_
  refine (impl_Claim.calls k Ax cx tb a1_0 a1_1 a2 a3 a4 ri cs _ (HG.out.below (below_step BX5.out.bel (below_step (below_drew1 (Below.refl _ _)) hb_))) (Kd.C_below (Kd.C_drew RX5.out.reads.2.2) hb_) RX5.out.reads.2.1 HSf.out).mono ?_
  rintro e u1b ⟨v_, rfl, hR_, hb_u1b⟩
  obtain ⟨Ad_, cd_, rfl⟩ := Kd.S_slice hR_
  refine ⟨_, rfl, ?_⟩
  refine hK.out _ _ ⟨pw_cell_below (below_step hb_ hb_u1b) HH0.out.1, pw_cell_below (below_step hb_ hb_u1b) HH0.out.2.1, pw_cell_below (below_step hb_ hb_u1b) HH0.out.2.2⟩ (fun hHeld => ?_)
  clear hK K
  refine norm_ (a' := ?_) ?_ ?_
  rotate_left
  · simp only [putAll, Act.put, sA_]
    rfl
  refine pureY (i := 7) (N := some 45) (v := ?_) (a' := ?_) #[true, true, true, true, true, true, true, true, false, false, true, false, false] rfl rfl (by kernel_rfl) ⟨by rfl, ?_⟩ ?_ ?_
  rotate_left
  · intro w'
    go_simp
    with_reducible rfl
  rotate_left
  · simp only [Act.put, sA_, i64_w, i32_w]
    rfl
  refine pureY (i := 8) (N := some 53) (v := ?_) (a' := ?_) #[true, true, true, true, true, true, true, true, true, false, true, false, false] rfl rfl (by kernel_rfl) ⟨by rfl, ?_⟩ ?_ ?_
  rotate_left
  · intro w'
    go_simp
    with_reducible rfl
  rotate_left
  · simp only [Act.put, sA_, i64_w, i32_w]
    rfl
  refine pureY (i := 9) (N := some 54) (v := ?_) (a' := ?_) #[true, true, true, true, true, true, true, true, true, true, true, false, false] rfl rfl (by kernel_rfl) ⟨by rfl, ?_⟩ ?_ ?_
  rotate_left
  · intro w'
    go_simp
    with_reducible rfl
  rotate_left
  · simp only [Act.put, sA_, i64_w, i32_w]
    rfl
  exact norm_ (by first | (simp only [putAll, Act.put, sA_]; done) | (simp only [putAll, Act.put, sA_]; rfl)) (hJ2 (gw_, (none, 0), (Ad_, cd_)) _ ⟨blk_below hg_ hb_u1b, hge_, below_step hb_ hb_u1b, Kd.S_lower hR_ (below_size (below_step (below_drew1 (Below.refl _ _)) hb_))⟩)
 rintro ⟨gg, ⟨_, _⟩, ⟨Ag, cg⟩⟩ wj ⟨hg, hge, hb, hR⟩
 refine norm_ (a' := ?_) ?_ ?_
 rotate_left
 · simp only [putAll, Act.put, sA_]
   rfl
 refine last_ (i := 11) (N := none) #[true, true, true, true, true, true, true, true, true, true, true, true, false] rfl rfl (by kernel_rfl) (by decide) (fun K hK => ?_)
 have hc0 : wj.cell? ⟨gg, 0, none⟩ = some (.slice none 0 0) := (blk_cell hg 0).trans rfl
 have hf0 := blk_frozen hg 0
 refine skip_ (w1 := (wj.setCell ⟨gg, 0, none⟩ (.slice Ag ri.length cg))) (by rfl) rfl ?_ ?_
 · go_simp
 clear hc0 hf0
 refine hK.out _ _ ?_
 clear hK K
 refine pureY (i := 12) (N := some 16) (v := ?_) (a' := ?_) #[true, true, true, true, true, true, true, true, true, true, true, true, true] rfl rfl (by kernel_rfl) ⟨by rfl, ?_⟩ ?_ ?_
 rotate_left
 · intro w'
   go_simp
   with_reducible rfl
 rotate_left
 · simp only [Act.put, sA_, i64_w, i32_w]
   rfl
 refine done_ (by kernel_rfl) ?_
 obtain ⟨w6, hw6⟩ : ∃ W_ : World, W_ = (wj.setCell ⟨gg, 0, none⟩ (.slice Ag ri.length cg)) := ⟨_, rfl⟩
 rw [← hw6]
 have hbj := below_step (below_drew1 (Below.refl _ _)) hb
 have BX6 := Aside0.mk ((BX5.out.keep hbj).stored1 hw6 (Nat.le_trans BX5.out.lo hge))
 have RW6 := Aside0.mk ((RW5.out.keep hbj).kept (show Kept wj w6 (fun k => k = gg) by rw [hw6]; exact kept_set1 (Kept.refl _ _)) (fun k e_ => by have := RW5.out.sz; have := e_; omega))
 have RX6 := Aside0.mk ((RX5.out.keep hbj).kept (show Kept wj w6 (fun k => k = gg) by rw [hw6]; exact kept_set1 (Kept.refl _ _)) (fun k e_ => by have := RX5.out.sz; have := e_; omega))
 have RG6 := Aside0.mk (show ResS k32 32 36 w w6 w5.heap.size w6.heap.size gg #[(.slice Ag ri.length cg)] (.slice Ag ri.length cg) ri from ResS.stored1 hw6 hg hge (below_size BX5.out.bel) hR (by decide))
 clear hw6 hb hbj hR hg hge HH0 BX5 RW5 RX5
 have ha : w6.cell? ⟨gg, 0, none⟩ = some (.slice Ag ri.length cg) := (blk_cell RG6.out.b 0).trans rfl
 have hd : w6.cell? ⟨gw, 0, none⟩ = some (.slice Ad rs.length cd) := (blk_cell RW6.out.b 0).trans rfl
 go_wp2_with (first | (go_at_call 20; refine (laws_eqTable.calls k Ag cg ri Ad cd rs true _ RG6.out.reads.2.2 RG6.out.reads.2.1 RW6.out.reads.2.2 RW6.out.reads.2.1 HE1.out).mono ?_; rintro e w7 ⟨rfl, hb⟩; have BX7 := Aside0.mk (BX6.out.keep hb); have RW7 := Aside0.mk (RW6.out.keep hb); have RX7 := Aside0.mk (RX6.out.keep hb); have RG7 := Aside0.mk (RG6.out.keep hb); clear hb BX6 RW6 RX6 RG6 ha hd))
 refine start_ (n := 5) (S := fun w' => w'.cell? ⟨w4.heap.size, 0, none⟩ = some (.slice Ax tb.length cx) ∧ w'.cell? ⟨w.heap.size, 0, none⟩ = some (.slice A0_0 l0_0.length c0_0)) (ds := [68]) #[false, false, false, false, false] (by kernel_rfl) rfl rfl ⟨(blk_cell RX7.out.b 0).trans rfl, (blk_cell BX7.out.h0 0).trans rfl⟩ (fun hHeld => ?_)
 refine takeY (i := 0) (N := some 64) (v := ?_) (a' := ?_) #[true, false, false, false, false] rfl rfl (by kernel_rfl) ⟨by rfl, ?_⟩ hHeld ?_ ?_
 rotate_left
 · rintro w' ⟨s0, s1⟩
   go_simp
   with_reducible rfl
 rotate_left
 · simp only [Act.put, sA_, i64_w, i32_w]
   rfl
 refine takeY (i := 1) (N := some 65) (v := ?_) (a' := ?_) #[true, true, false, false, false] rfl rfl (by kernel_rfl) ⟨by rfl, ?_⟩ hHeld ?_ ?_
 rotate_left
 · rintro w' ⟨s0, s1⟩
   go_simp
   with_reducible rfl
 rotate_left
 · simp only [Act.put, sA_, i64_w, i32_w]
   rfl
 refine one_ (i := 2) (N := some 66) #[true, true, true, false, false] rfl rfl (by kernel_rfl) (by decide) (fun K hK => ?_)
 refine goes_ Tryd.func16 rfl rfl #[.agg #[.slice A0_0 l0_0.length c0_0]] rfl rfl rfl (by (try simp only [List.map_toArray, List.map_cons, List.map_nil, List.append_toArray, List.append_nil, List.nil_append, List.cons_append]); rfl) ?_
 refine (laws_toTable.calls k A0_0 c0_0 l0_0 tb _ (Kd.C_below HR0.out (below_drew1 BX7.out.bel)) HC0.out HTB.out).mono ?_
 rintro e w8 ⟨v_, rfl, hS, hb⟩
 obtain ⟨At, ct, rfl⟩ := Kd.S_slice hS
 refine ⟨_, rfl, ?_⟩
 have hbj := below_step (below_drew1 (Below.refl _ _)) hb
 have BX8 := Aside0.mk (BX7.out.keep hbj); have RW8 := Aside0.mk (RW7.out.keep hbj); have RX8 := Aside0.mk (RX7.out.keep hbj); have RG8 := Aside0.mk (RG7.out.keep hbj)
 refine hK.out _ _ ⟨pw_cell_below hb hHeld.1, pw_cell_below hb hHeld.2⟩ (fun hHeld => ?_)
 clear hK K
 refine norm_ (a' := ?_) ?_ ?_
 rotate_left
 · show Act.put _ (some 66) _ = _
   simp only [Act.put, sA_, i64_w, i32_w]
   rfl
 have HS8 := Aside0.mk hS
 clear hS hb hbj BX7 RW7 RX7 RG7
 refine one_ (i := 3) (N := some 67) #[true, true, true, true, false] rfl rfl (by kernel_rfl) (by decide) (fun K hK => ?_)
 refine goes_ Tryd.func20 rfl rfl #[.agg #[.slice Ax tb.length cx], .agg #[.slice At tb.length ct]] rfl rfl rfl (by (try simp only [List.map_toArray, List.map_cons, List.map_nil, List.append_toArray, List.append_nil, List.nil_append, List.cons_append]); rfl) ?_
 refine (laws_eqTable.calls k Ax cx tb At ct tb true _ RX8.out.reads.2.2 RX8.out.reads.2.1 (Kd.S_reads' HS8.out).2.2 (Kd.S_reads' HS8.out).2.1 HE2.out).mono ?_
 rintro e w9 ⟨rfl, hb⟩
 refine ⟨_, rfl, ?_⟩
 have BX9 := Aside0.mk (BX8.out.keep hb); have RW9 := Aside0.mk (RW8.out.keep hb); have RX9 := Aside0.mk (RX8.out.keep hb); have RG9 := Aside0.mk (RG8.out.keep hb)
 refine hK.out _ _ ⟨pw_cell_below hb hHeld.1, pw_cell_below hb hHeld.2⟩ (fun hHeld => ?_)
 clear hK K
 refine norm_ (a' := ?_) ?_ ?_
 rotate_left
 · show Act.put _ (some 67) _ = _
   simp only [Act.put, sA_, i64_w, i32_w]
   rfl
 clear hb HS8 BX8 RW8 RX8 RG8
 refine pureY (i := 4) (N := some 68) (v := ?_) (a' := ?_) #[true, true, true, true, true] rfl rfl (by kernel_rfl) ⟨by rfl, ?_⟩ ?_ ?_
 rotate_left
 · intro w'
   go_simp
   with_reducible rfl
 rotate_left
 · simp only [Act.put, sA_, i64_w, i32_w]
   rfl
 refine done_ (by kernel_rfl) ?_
 clear hHeld
 have hk7 : w9.cell? ⟨w4.heap.size, 0, none⟩ = some (.slice Ax tb.length cx) := (blk_cell RX9.out.b 0).trans rfl
 go_wp2_with (first | (go_at_call 21; refine (laws_markTable.calls k (fun k_ => w3.heap.size ≤ k_ ∧ k_ < w5.heap.size ∧ k_ ≠ w4.heap.size) (.slice Ax tb.length cx) tb 1 q1 tb' w _ BX9.out.bel RX9.out.r HQ.out).mono ?_; rintro e w10 ⟨rfl, hs, hb, hk⟩; have BX10 := Aside0.mk (BX9.out.kept hk (fun e_ => by have := HLO0.out; have := e_.1; omega) (fun e_ => by have := HLO0.out; have := e_.1; omega) hb); have RX10 := Aside0.mk (show ResS k32 32 36 w w10 w3.heap.size w5.heap.size w4.heap.size #[.slice Ax tb.length cx] (.slice Ax tb.length cx) tb' from RX9.out.mark hk hs); have RW10 := Aside0.mk (RW9.out.kept hk (fun k_ e_ => by omega)); have RG10 := Aside0.mk (RG9.out.kept hk (fun k_ e_ => by omega)); clear hs hb hk hk7 BX9 RW9 RX9 RG9; refine Hid.out ?_))
 refine Lib.hid ?_
 have ha : w10.cell? ⟨gg, 0, none⟩ = some (.slice Ag ri.length cg) := (blk_cell RG10.out.b 0).trans rfl
 have hd : w10.cell? ⟨gw, 0, none⟩ = some (.slice Ad rs.length cd) := (blk_cell RW10.out.b 0).trans rfl
 go_wp2_with (first | (go_at_call 20; refine (laws_eqTable.calls k Ag cg ri Ad cd rs true _ RG10.out.reads.2.2 RG10.out.reads.2.1 RW10.out.reads.2.2 RW10.out.reads.2.1 HE1.out).mono ?_; rintro e w11 ⟨rfl, hb⟩; have BX11 := Aside0.mk (BX10.out.keep hb); have RW11 := Aside0.mk (RW10.out.keep hb); have RX11 := Aside0.mk (RX10.out.keep hb); have RG11 := Aside0.mk (RG10.out.keep hb); clear hb BX10 RW10 RX10 RG10 ha hd; refine Hid.out ?_))
 refine Lib.hid ?_
 have ha : w11.cell? ⟨gg, 0, none⟩ = some (.slice Ag ri.length cg) := (blk_cell RG11.out.b 0).trans rfl
 go_wp2_with (first | (go_at_call 21; refine (laws_markTable.calls k (fun k_ => w5.heap.size ≤ k_ ∧ k_ < w6.heap.size ∧ k_ ≠ gg) (.slice Ag ri.length cg) ri 1 y ri' w _ BX11.out.bel RG11.out.r HM.out).mono ?_; rintro e w12 ⟨rfl, hs, hb, hk⟩; have BX12 := Aside0.mk (BX11.out.kept hk (fun e_ => by have := HLO0.out; have := RX11.out.ge; have := RX11.out.lt; have := e_.1; omega) (fun e_ => by have := HLO0.out; have := RX11.out.ge; have := RX11.out.lt; have := e_.1; omega) hb); have RG12 := Aside0.mk (show ResS k32 32 36 w w12 w5.heap.size w6.heap.size gg #[.slice Ag ri.length cg] (.slice Ag ri.length cg) ri' from RG11.out.mark hk hs); have RW12 := Aside0.mk (RW11.out.kept hk (fun k_ e_ => by have := RX11.out.ge; have := RX11.out.lt; omega)); have RX12 := Aside0.mk (RX11.out.kept hk (fun k_ e_ => by omega)); clear hs hb hk ha BX11 RW11 RX11 RG11; refine Hid.out ?_))
 refine Lib.hid ?_
 have ha : w12.cell? ⟨gg, 0, none⟩ = some (.slice Ag ri.length cg) := (blk_cell RG12.out.b 0).trans rfl
 go_wp2_with (first | (go_at_call 31; refine (heldTable_at k Ag ri.length cg ri' 1 y _ RG12.out.reads.1 RG12.out.reads.2.2 RG12.out.reads.2.1 HY.out).mono ?_; rintro e w13 ⟨rfl, hb⟩; have BX13 := Aside0.mk (BX12.out.keep hb); have RW13 := Aside0.mk (RW12.out.keep hb); have RX13 := Aside0.mk (RX12.out.keep hb); have RG13 := Aside0.mk (RG12.out.keep hb); clear hb ha BX12 RW12 RX12 RG12))
 refine start_ (n := 14) (S := fun w' => w'.cell? ⟨w.heap.size, 0, none⟩ = some (.slice A0_0 l0_0.length c0_0) ∧ w'.cell? ⟨w.heap.size + 1, 0, none⟩ = some (.int .i64 a1_0) ∧ w'.cell? ⟨w.heap.size + 1, 1, none⟩ = some (.string a1_1)) (ds := [12]) #[false, false, false, false, false, false, false, false, false, false, false, false, false, false] (by kernel_rfl) rfl rfl ⟨(blk_cell BX13.out.h0 0).trans rfl, (blk_cell BX13.out.h1 0).trans rfl, (blk_cell BX13.out.h1 1).trans rfl⟩ (fun hHeld => ?_)
 refine takeY (i := 0) (N := some 97) (v := ?_) (a' := ?_) #[true, false, false, false, false, false, false, false, false, false, false, false, false, false] rfl rfl (by kernel_rfl) ⟨by rfl, ?_⟩ hHeld ?_ ?_
 rotate_left
 · rintro w' ⟨s0, s1, s2⟩
   go_simp
   with_reducible rfl
 rotate_left
 · simp only [Act.put, sA_, i64_w, i32_w]
   rfl
 refine takeY (i := 2) (N := some 99) (v := ?_) (a' := ?_) #[true, false, true, false, false, false, false, false, false, false, false, false, false, false] rfl rfl (by kernel_rfl) ⟨by rfl, ?_⟩ hHeld ?_ ?_
 rotate_left
 · rintro w' ⟨s0, s1, s2⟩
   go_simp
   with_reducible rfl
 rotate_left
 · simp only [Act.put, sA_, i64_w, i32_w]
   rfl
 refine pureY (i := 4) (N := some 101) (v := ?_) (a' := ?_) #[true, false, true, false, true, false, false, false, false, false, false, false, false, false] rfl rfl (by kernel_rfl) ⟨by rfl, ?_⟩ ?_ ?_
 rotate_left
 · intro w'
   go_simp
   with_reducible rfl
 rotate_left
 · simp only [Act.put, sA_, i64_w, i32_w]
   rfl
 refine pureY (i := 5) (N := some 102) (v := ?_) (a' := ?_) #[true, false, true, false, true, true, false, false, false, false, false, false, false, false] rfl rfl (by kernel_rfl) ⟨by rfl, ?_⟩ ?_ ?_
 rotate_left
 · intro w'
   go_simp
   with_reducible rfl
 rotate_left
 · simp only [Act.put, sA_, i64_w, i32_w]
   rfl
 refine pureY (i := 6) (N := some 103) (v := ?_) (a' := ?_) #[true, false, true, false, true, true, true, false, false, false, false, false, false, false] rfl rfl (by kernel_rfl) ⟨by rfl, ?_⟩ ?_ ?_
 rotate_left
 · intro w'
   go_simp
   with_reducible rfl
 rotate_left
 · simp only [Act.put, sA_, i64_w, i32_w]
   rfl
 have HH0 := Aside0.mk hHeld
 refine join_ (σ := Nat × (Option Addr × Nat) × (Option Addr × Nat)) 2 #[true, true, true, true, true, true, true, true, true, true, true, true, false, false] (fun s => [(98, (.agg #[.slice s.2.1.1 tb.length s.2.1.2])), (100, (.agg #[.int .i64 a1_0, .string a1_1])), (104, (.tuple #[.agg #[(.slice s.2.2.1 ri.length s.2.2.2)], .int .i64 cs])), (96, (.tuple #[.agg #[(.slice s.2.2.1 ri.length s.2.2.2)], .int .i64 cs])), (105, (.agg #[(.slice s.2.2.1 ri.length s.2.2.2)])), (106, (.int .i64 cs)), (20, (.pointer (some ⟨s.1, 0, none⟩)))]) (fun s w' => w'.heap[s.1]? = some (.cells #[.slice none 0 0] 36 (0, 0)) ∧ w13.heap.size ≤ s.1 ∧ Below w13.drew.heap.size w13.drew w' ∧ Kd.C k32 w' s.2.1.1 tb.length tb ∧ tb.length ≤ s.2.1.2 ∧ Kd.S k32 32 w' w13.heap.size (fun _ => True) (.slice s.2.2.1 ri.length s.2.2.2) ri) ?_ ?_
 rotate_left
 ·
  intro hJ3
  refine join_ (σ := Nat × (Option Addr × Nat) × (Option Addr × Nat)) 6 #[true, true, true, true, true, true, true, false, false, false, false, true, false, false] (fun s => [(98, (.agg #[.slice s.2.1.1 tb.length s.2.1.2])), (100, (.agg #[.int .i64 a1_0, .string a1_1])), (20, (.pointer (some ⟨s.1, 0, none⟩)))]) (fun s w' => w'.heap[s.1]? = some (.cells #[.slice none 0 0] 36 (0, 0)) ∧ w13.heap.size ≤ s.1 ∧ Below w13.drew.heap.size w13.drew w' ∧ Kd.C k32 w' s.2.1.1 tb.length tb ∧ tb.length ≤ s.2.1.2) ?_ ?_
  rotate_left
  ·
   intro hJ2
   refine join_ (σ := Nat × (Option Addr × Nat) × (Option Addr × Nat)) 7 #[true, true, true, false, true, true, true, false, false, false, false, true, false, false] (fun s => [(98, (.agg #[.slice s.2.1.1 tb.length s.2.1.2])), (20, (.pointer (some ⟨s.1, 0, none⟩)))]) (fun s w' => w'.heap[s.1]? = some (.cells #[.slice none 0 0] 36 (0, 0)) ∧ w13.heap.size ≤ s.1 ∧ Below w13.drew.heap.size w13.drew w' ∧ Kd.C k32 w' s.2.1.1 tb.length tb ∧ tb.length ≤ s.2.1.2) ?_ ?_
   rotate_left
   ·
    intro hJ1
    refine join_ (σ := Nat × (Option Addr × Nat) × (Option Addr × Nat)) 8 #[true, false, true, false, true, true, true, false, false, false, false, true, false, false] (fun s => [(20, (.pointer (some ⟨s.1, 0, none⟩)))]) (fun s w' => w'.heap[s.1]? = some (.cells #[.slice none 0 0] 36 (0, 0)) ∧ w13.heap.size ≤ s.1 ∧ Below w13.drew.heap.size w13.drew w') ?_ ?_
    rotate_left
    ·
     intro hJ0
     refine two_ (i := 1) (j := 11) (Ni := some 98) (Nj := some 20) #[true, true, true, false, true, true, true, false, false, false, false, false, false, false] #[true, false, true, false, true, true, true, false, false, false, false, true, false, false] rfl rfl rfl rfl (by kernel_rfl) (by decide) (by decide) (fun K hK => ?_) (fun K hK => ?_)
     ·
      refine goes_ Tryd.func16 rfl rfl #[.agg #[.slice A0_0 l0_0.length c0_0]] rfl rfl rfl (by (try simp only [List.map_toArray, List.map_cons, List.map_nil, List.append_toArray, List.append_nil, List.nil_append, List.cons_append]); rfl) ?_
      refine (laws_toTable.calls k A0_0 c0_0 l0_0 tb _ (Kd.C_below HR0.out (below_drew1 BX13.out.bel)) HC0.out HTB.out).mono ?_
      rintro e u0c ⟨v_, rfl, hS_, hb_u0c⟩
      obtain ⟨At_, ct_, rfl⟩ := Kd.S_slice hS_
      have hCt_ := (Kd.S_reads' hS_).2.2
      have hct_ := (Kd.S_reads' hS_).2.1
      clear hS_
      refine ⟨_, rfl, ?_⟩
      refine hK.out _ _ ⟨pw_cell_below hb_u0c hHeld.1, pw_cell_below hb_u0c hHeld.2.1, pw_cell_below hb_u0c hHeld.2.2⟩ (fun hHeld => ?_)
      clear hK K
      refine two_ (i := 3) (j := 11) (Ni := some 100) (Nj := some 20) #[true, true, true, true, true, true, true, false, false, false, false, false, false, false] #[true, true, true, false, true, true, true, false, false, false, false, true, false, false] rfl rfl rfl rfl (by kernel_rfl) (by decide) (by decide) (fun K hK => ?_) (fun K hK => ?_)
      ·
       refine goes_ Tryd.func17 rfl rfl #[.agg #[.int .i64 a1_0, .string a1_1]] rfl rfl rfl (by (try simp only [List.map_toArray, List.map_cons, List.map_nil, List.append_toArray, List.append_nil, List.nil_append, List.cons_append]); rfl) ?_
       refine (laws_toKey.calls a1_0 a1_1 a1_0 a1_1 _ rfl).mono ?_
       rintro e u1c ⟨rfl, hb_u1c⟩
       refine ⟨_, rfl, ?_⟩
       refine hK.out _ _ ⟨pw_cell_below hb_u1c hHeld.1, pw_cell_below hb_u1c hHeld.2.1, pw_cell_below hb_u1c hHeld.2.2⟩ (fun hHeld => ?_)
       clear hK K
       refine two_ (i := 7) (j := 11) (Ni := some 104) (Nj := some 20) #[true, true, true, true, true, true, true, true, false, false, false, false, false, false] #[true, true, true, true, true, true, true, false, false, false, false, true, false, false] rfl rfl rfl rfl (by kernel_rfl) (by decide) (by decide) (fun K hK => ?_) (fun K hK => ?_)
       ·
        refine goes_ Tryd.func41 rfl rfl #[.agg #[.slice At_ tb.length ct_], .agg #[.int .i64 a1_0, .string a1_1], .int .i64 a2, .int .i64 a3, .int .i64 a4] rfl rfl rfl (by (try simp only [List.map_toArray, List.map_cons, List.map_nil, List.append_toArray, List.append_nil, List.nil_append, List.cons_append]); rfl) ?_
        refine (impl_Claim.calls k At_ ct_ tb a1_0 a1_1 a2 a3 a4 ri cs _ (HG.out.below (below_step BX13.out.bel (below_step (below_drew1 (Below.refl _ _)) (below_step hb_u0c hb_u1c)))) (Kd.C_below hCt_ hb_u1c) hct_ HSf.out).mono ?_
        rintro e u2c ⟨v_, rfl, hR_, hb_u2c⟩
        obtain ⟨Ad_, cd_, rfl⟩ := Kd.S_slice hR_
        refine ⟨_, rfl, ?_⟩
        refine hK.out _ _ ⟨pw_cell_below hb_u2c hHeld.1, pw_cell_below hb_u2c hHeld.2.1, pw_cell_below hb_u2c hHeld.2.2⟩ (fun hHeld => ?_)
        clear hK K
        refine norm_ (a' := ?_) ?_ ?_
        rotate_left
        · simp only [putAll, Act.put, sA_]
          rfl
        refine pureY (i := 8) (N := some 96) (v := ?_) (a' := ?_) #[true, true, true, true, true, true, true, true, true, false, false, false, false, false] rfl rfl (by kernel_rfl) ⟨by rfl, ?_⟩ ?_ ?_
        rotate_left
        · intro w'
          go_simp
          with_reducible rfl
        rotate_left
        · simp only [Act.put, sA_, i64_w, i32_w]
          rfl
        refine pureY (i := 9) (N := some 105) (v := ?_) (a' := ?_) #[true, true, true, true, true, true, true, true, true, true, false, false, false, false] rfl rfl (by kernel_rfl) ⟨by rfl, ?_⟩ ?_ ?_
        rotate_left
        · intro w'
          go_simp
          with_reducible rfl
        rotate_left
        · simp only [Act.put, sA_, i64_w, i32_w]
          rfl
        refine pureY (i := 10) (N := some 106) (v := ?_) (a' := ?_) #[true, true, true, true, true, true, true, true, true, true, true, false, false, false] rfl rfl (by kernel_rfl) ⟨by rfl, ?_⟩ ?_ ?_
        rotate_left
        · intro w'
          go_simp
          with_reducible rfl
        rotate_left
        · simp only [Act.put, sA_, i64_w, i32_w]
          rfl
        refine one_ (i := 11) (N := some 20) #[true, true, true, true, true, true, true, true, true, true, true, true, false, false] rfl rfl (by kernel_rfl) (by decide) (fun K hK => ?_)
        refine value_ (v := .pointer (some ⟨u2c.heap.size, 0, none⟩)) (w1 := u2c.alloc (.cells #[.slice none 0 0] 36)) (by rfl) rfl ?_ ?_
        · go_simp
        refine hK.out _ _ ⟨pw_cell_below (below_alloc (Below.refl _ _) _) hHeld.1, pw_cell_below (below_alloc (Below.refl _ _) _) hHeld.2.1, pw_cell_below (below_alloc (Below.refl _ _) _) hHeld.2.2⟩ (fun hHeld => ?_)
        clear hK K
        exact norm_ (by first | (simp only [putAll, Act.put, sA_]; done) | (simp only [putAll, Act.put, sA_]; rfl)) (hJ3 (u2c.heap.size, (At_, ct_), (Ad_, cd_)) _ ⟨blk_new _ _, (below_size (below_step (below_drew1 (Below.refl _ _)) (below_step (below_step hb_u0c hb_u1c) hb_u2c))), below_alloc (below_step (below_step hb_u0c hb_u1c) hb_u2c) _, Kd.C_below (Kd.C_below (Kd.C_below hCt_ hb_u1c) hb_u2c) (below_alloc (Below.refl _ _) _), hct_, Kd.S_below (Kd.S_lower hR_ (below_size (below_step (below_drew1 (Below.refl _ _)) (below_step hb_u0c hb_u1c)))) (below_alloc (Below.refl _ _) _)⟩)
       refine value_ (v := .pointer (some ⟨u1c.heap.size, 0, none⟩)) (w1 := u1c.alloc (.cells #[.slice none 0 0] 36)) (by rfl) rfl ?_ ?_
       · go_simp
       refine hK.out _ _ ⟨pw_cell_below (below_alloc (Below.refl _ _) _) hHeld.1, pw_cell_below (below_alloc (Below.refl _ _) _) hHeld.2.1, pw_cell_below (below_alloc (Below.refl _ _) _) hHeld.2.2⟩ (fun hHeld => ?_)
       clear hK K
       exact norm_ (by first | (simp only [putAll, Act.put, sA_]; done) | (simp only [putAll, Act.put, sA_]; rfl)) (hJ2 (u1c.heap.size, (At_, ct_), (none, 0)) _ ⟨blk_new _ _, (below_size (below_step (below_drew1 (Below.refl _ _)) (below_step hb_u0c hb_u1c))), below_alloc (below_step hb_u0c hb_u1c) _, Kd.C_below (Kd.C_below hCt_ hb_u1c) (below_alloc (Below.refl _ _) _), hct_⟩)
      refine value_ (v := .pointer (some ⟨u0c.heap.size, 0, none⟩)) (w1 := u0c.alloc (.cells #[.slice none 0 0] 36)) (by rfl) rfl ?_ ?_
      · go_simp
      refine hK.out _ _ ⟨pw_cell_below (below_alloc (Below.refl _ _) _) hHeld.1, pw_cell_below (below_alloc (Below.refl _ _) _) hHeld.2.1, pw_cell_below (below_alloc (Below.refl _ _) _) hHeld.2.2⟩ (fun hHeld => ?_)
      clear hK K
      exact norm_ (by first | (simp only [putAll, Act.put, sA_]; done) | (simp only [putAll, Act.put, sA_]; rfl)) (hJ1 (u0c.heap.size, (At_, ct_), (none, 0)) _ ⟨blk_new _ _, (below_size (below_step (below_drew1 (Below.refl _ _)) hb_u0c)), below_alloc hb_u0c _, Kd.C_below hCt_ (below_alloc (Below.refl _ _) _), hct_⟩)
     refine value_ (v := .pointer (some ⟨w13.drew.heap.size, 0, none⟩)) (w1 := w13.drew.alloc (.cells #[.slice none 0 0] 36)) (by rfl) rfl ?_ ?_
     · go_simp
     refine hK.out _ _ ⟨pw_cell_below (below_alloc (Below.refl _ _) _) hHeld.1, pw_cell_below (below_alloc (Below.refl _ _) _) hHeld.2.1, pw_cell_below (below_alloc (Below.refl _ _) _) hHeld.2.2⟩ (fun hHeld => ?_)
     clear hK K
     exact norm_ (by first | (simp only [putAll, Act.put, sA_]; done) | (simp only [putAll, Act.put, sA_]; rfl)) (hJ0 (w13.drew.heap.size, (none, 0), (none, 0)) _ ⟨blk_new _ _, (below_size (below_step (below_drew1 (Below.refl _ _)) (Below.refl _ _))), below_alloc (Below.refl _ _) _⟩)
    rintro ⟨gw_, ⟨At0_, ct0_⟩, ⟨Ad0_, cd0_⟩⟩ wj_ ⟨hg_, hge_, hb_⟩
    refine norm_ (a' := ?_) ?_ ?_
    rotate_left
    · simp only [putAll, Act.put, sA_]
      rfl
    refine one_ (i := 1) (N := some 98) #[true, true, true, false, true, true, true, false, false, false, false, true, false, false] rfl rfl (by kernel_rfl) (by decide) (fun K hK => ?_)
    refine goes_ Tryd.func16 rfl rfl #[.agg #[.slice A0_0 l0_0.length c0_0]] rfl rfl rfl (by (try simp only [List.map_toArray, List.map_cons, List.map_nil, List.append_toArray, List.append_nil, List.nil_append, List.cons_append]); rfl) ?_
    refine (laws_toTable.calls k A0_0 c0_0 l0_0 tb _ (Kd.C_below HR0.out (below_step BX13.out.bel (below_step (below_drew1 (Below.refl _ _)) hb_))) HC0.out HTB.out).mono ?_
    rintro e u0c ⟨v_, rfl, hS_, hb_u0c⟩
    obtain ⟨At_, ct_, rfl⟩ := Kd.S_slice hS_
    have hCt_ := (Kd.S_reads' hS_).2.2
    have hct_ := (Kd.S_reads' hS_).2.1
    clear hS_
    refine ⟨_, rfl, ?_⟩
    refine hK.out _ _ ⟨pw_cell_below (below_step hb_ hb_u0c) HH0.out.1, pw_cell_below (below_step hb_ hb_u0c) HH0.out.2.1, pw_cell_below (below_step hb_ hb_u0c) HH0.out.2.2⟩ (fun hHeld => ?_)
    clear hK K
    exact norm_ (by first | (simp only [putAll, Act.put, sA_]; done) | (simp only [putAll, Act.put, sA_]; rfl)) (hJ1 (gw_, (At_, ct_), (none, 0)) _ ⟨blk_below hg_ hb_u0c, hge_, below_step hb_ hb_u0c, hCt_, hct_⟩)
   rintro ⟨gw_, ⟨At0_, ct0_⟩, ⟨Ad0_, cd0_⟩⟩ wj_ ⟨hg_, hge_, hb_, hC_, hc_⟩
   refine norm_ (a' := ?_) ?_ ?_
   rotate_left
   · simp only [putAll, Act.put, sA_]
     rfl
   refine one_ (i := 3) (N := some 100) #[true, true, true, true, true, true, true, false, false, false, false, true, false, false] rfl rfl (by kernel_rfl) (by decide) (fun K hK => ?_)
   refine goes_ Tryd.func17 rfl rfl #[.agg #[.int .i64 a1_0, .string a1_1]] rfl rfl rfl (by (try simp only [List.map_toArray, List.map_cons, List.map_nil, List.append_toArray, List.append_nil, List.nil_append, List.cons_append]); rfl) ?_
   refine (laws_toKey.calls a1_0 a1_1 a1_0 a1_1 _ rfl).mono ?_
   rintro e u1c ⟨rfl, hb_u1c⟩
   refine ⟨_, rfl, ?_⟩
   refine hK.out _ _ ⟨pw_cell_below (below_step hb_ hb_u1c) HH0.out.1, pw_cell_below (below_step hb_ hb_u1c) HH0.out.2.1, pw_cell_below (below_step hb_ hb_u1c) HH0.out.2.2⟩ (fun hHeld => ?_)
   clear hK K
   exact norm_ (by first | (simp only [putAll, Act.put, sA_]; done) | (simp only [putAll, Act.put, sA_]; rfl)) (hJ2 (gw_, (At0_, ct0_), (none, 0)) _ ⟨blk_below hg_ hb_u1c, hge_, below_step hb_ hb_u1c, Kd.C_below hC_ hb_u1c, hc_⟩)
  rintro ⟨gw_, ⟨At0_, ct0_⟩, ⟨Ad0_, cd0_⟩⟩ wj_ ⟨hg_, hge_, hb_, hC_, hc_⟩
  refine norm_ (a' := ?_) ?_ ?_
  rotate_left
  · simp only [putAll, Act.put, sA_]
    rfl
  refine one_ (i := 7) (N := some 104) #[true, true, true, true, true, true, true, true, false, false, false, true, false, false] rfl rfl (by kernel_rfl) (by decide) (fun K hK => ?_)
  refine goes_ Tryd.func41 rfl rfl #[.agg #[.slice At0_ tb.length ct0_], .agg #[.int .i64 a1_0, .string a1_1], .int .i64 a2, .int .i64 a3, .int .i64 a4] rfl rfl rfl (by (try simp only [List.map_toArray, List.map_cons, List.map_nil, List.append_toArray, List.append_nil, List.nil_append, List.cons_append]); rfl) ?_
  refine (impl_Claim.calls k At0_ ct0_ tb a1_0 a1_1 a2 a3 a4 ri cs _ (HG.out.below (below_step BX13.out.bel (below_step (below_drew1 (Below.refl _ _)) hb_))) hC_ hc_ HSf.out).mono ?_
  rintro e u2c ⟨v_, rfl, hR_, hb_u2c⟩
  obtain ⟨Ad_, cd_, rfl⟩ := Kd.S_slice hR_
  refine ⟨_, rfl, ?_⟩
  refine hK.out _ _ ⟨pw_cell_below (below_step hb_ hb_u2c) HH0.out.1, pw_cell_below (below_step hb_ hb_u2c) HH0.out.2.1, pw_cell_below (below_step hb_ hb_u2c) HH0.out.2.2⟩ (fun hHeld => ?_)
  clear hK K
  refine norm_ (a' := ?_) ?_ ?_
  rotate_left
  · simp only [putAll, Act.put, sA_]
    rfl
  refine pureY (i := 8) (N := some 96) (v := ?_) (a' := ?_) #[true, true, true, true, true, true, true, true, true, false, false, true, false, false] rfl rfl (by kernel_rfl) ⟨by rfl, ?_⟩ ?_ ?_
  rotate_left
  · intro w'
    go_simp
    with_reducible rfl
  rotate_left
  · simp only [Act.put, sA_, i64_w, i32_w]
    rfl
  refine pureY (i := 9) (N := some 105) (v := ?_) (a' := ?_) #[true, true, true, true, true, true, true, true, true, true, false, true, false, false] rfl rfl (by kernel_rfl) ⟨by rfl, ?_⟩ ?_ ?_
  rotate_left
  · intro w'
    go_simp
    with_reducible rfl
  rotate_left
  · simp only [Act.put, sA_, i64_w, i32_w]
    rfl
  refine pureY (i := 10) (N := some 106) (v := ?_) (a' := ?_) #[true, true, true, true, true, true, true, true, true, true, true, true, false, false] rfl rfl (by kernel_rfl) ⟨by rfl, ?_⟩ ?_ ?_
  rotate_left
  · intro w'
    go_simp
    with_reducible rfl
  rotate_left
  · simp only [Act.put, sA_, i64_w, i32_w]
    rfl
  exact norm_ (by first | (simp only [putAll, Act.put, sA_]; done) | (simp only [putAll, Act.put, sA_]; rfl)) (hJ3 (gw_, (At0_, ct0_), (Ad_, cd_)) _ ⟨blk_below hg_ hb_u2c, hge_, below_step hb_ hb_u2c, Kd.C_below hC_ hb_u2c, hc_, Kd.S_lower hR_ (below_size (below_step (below_drew1 (Below.refl _ _)) hb_))⟩)
 rintro ⟨gh, ⟨_, _⟩, ⟨Ah, ch⟩⟩ wj ⟨hg, hge, hb, _, _, hR⟩
 refine norm_ (a' := ?_) ?_ ?_
 rotate_left
 · simp only [putAll, Act.put, sA_]
   rfl
 refine last_ (i := 12) (N := none) #[true, true, true, true, true, true, true, true, true, true, true, true, true, false] rfl rfl (by kernel_rfl) (by decide) (fun K hK => ?_)
 have hc0 : wj.cell? ⟨gh, 0, none⟩ = some (.slice none 0 0) := (blk_cell hg 0).trans rfl
 have hf0 := blk_frozen hg 0
 refine skip_ (w1 := (wj.setCell ⟨gh, 0, none⟩ (.slice Ah ri.length ch))) (by rfl) rfl ?_ ?_
 · go_simp
 clear hc0 hf0
 refine hK.out _ _ ?_
 clear hK K
 refine pureY (i := 13) (N := some 21) (v := ?_) (a' := ?_) #[true, true, true, true, true, true, true, true, true, true, true, true, true, true] rfl rfl (by kernel_rfl) ⟨by rfl, ?_⟩ ?_ ?_
 rotate_left
 · intro w'
   go_simp
   with_reducible rfl
 rotate_left
 · simp only [Act.put, sA_, i64_w, i32_w]
   rfl
 refine done_ (by kernel_rfl) ?_
 obtain ⟨w14, hw14⟩ : ∃ W_ : World, W_ = (wj.setCell ⟨gh, 0, none⟩ (.slice Ah ri.length ch)) := ⟨_, rfl⟩
 rw [← hw14]
 have hbj := below_step (below_drew1 (Below.refl _ _)) hb
 have BX14 := Aside0.mk ((BX13.out.keep hbj).stored1 hw14 (Nat.le_trans BX13.out.lo hge))
 have RW14 := Aside0.mk ((RW13.out.keep hbj).kept (show Kept wj w14 (fun k => k = gh) by rw [hw14]; exact kept_set1 (Kept.refl _ _)) (fun k e_ => by have := RW13.out.sz; have := e_; omega))
 have RX14 := Aside0.mk ((RX13.out.keep hbj).kept (show Kept wj w14 (fun k => k = gh) by rw [hw14]; exact kept_set1 (Kept.refl _ _)) (fun k e_ => by have := RX13.out.sz; have := e_; omega))
 have RG14 := Aside0.mk ((RG13.out.keep hbj).kept (show Kept wj w14 (fun k => k = gh) by rw [hw14]; exact kept_set1 (Kept.refl _ _)) (fun k e_ => by have := RG13.out.sz; have := e_; omega))
 have RH14 := Aside0.mk (show ResS k32 32 36 w w14 w13.heap.size w14.heap.size gh #[(.slice Ah ri.length ch)] (.slice Ah ri.length ch) ri from ResS.stored1 hw14 hg hge (below_size BX13.out.bel) hR (by decide))
 clear hw14 hb hbj hR hg hge HH0 BX13 RW13 RX13 RG13
 have ha : w14.cell? ⟨gh, 0, none⟩ = some (.slice Ah ri.length ch) := (blk_cell RH14.out.b 0).trans rfl
 have hd : w14.cell? ⟨gw, 0, none⟩ = some (.slice Ad rs.length cd) := (blk_cell RW14.out.b 0).trans rfl
 go_wp2_with (first | (go_at_call 20; refine (laws_eqTable.calls k Ah ch ri Ad cd rs true _ RH14.out.reads.2.2 RH14.out.reads.2.1 RW14.out.reads.2.2 RW14.out.reads.2.1 HE1.out).mono ?_; rintro e w15 ⟨rfl, hb⟩; have BX15 := Aside0.mk (BX14.out.keep hb); have RW15 := Aside0.mk (RW14.out.keep hb); have RX15 := Aside0.mk (RX14.out.keep hb); have RG15 := Aside0.mk (RG14.out.keep hb); clear hb BX14 RW14 RX14 RG14 ha hd; refine Hid.out ?_))
 refine Lib.hid ?_
 have ha : w15.cell? ⟨gg, 0, none⟩ = some (.slice Ag ri.length cg) := (blk_cell RG15.out.b 0).trans rfl
 go_wp2_with (first | (go_at_call 31; refine (heldTable_at k Ag ri.length cg ri' 1 y _ RG15.out.reads.1 RG15.out.reads.2.2 RG15.out.reads.2.1 HY.out).mono ?_; rintro e w16 ⟨rfl, hb⟩; have BX16 := Aside0.mk (BX15.out.keep hb); have RW16 := Aside0.mk (RW15.out.keep hb); have RX16 := Aside0.mk (RX15.out.keep hb); have RG16 := Aside0.mk (RG15.out.keep hb); clear hb ha BX15 RW15 RX15 RG15))
 go_ret
 exact ⟨rfl, BX16.out.bel⟩
end Go.Proofs.YtnbohlcibgfjaaaDoor.Gp
end
