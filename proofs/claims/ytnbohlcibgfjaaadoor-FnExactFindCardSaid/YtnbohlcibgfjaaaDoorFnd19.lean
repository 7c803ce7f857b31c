/- A part of the proof of RowFnExactFind: each text's theorems that it needs, packed by shake.py, a program of this work; Lean checks them. -/
import Derived.Test.YtnbohlcibgfjaaaDoorFnd3
import Derived.Test.YtnbohlcibgfjaaaDoorFnd7
import Derived.Test.YtnbohlcibgfjaaaDoorFnd8
import Derived.Test.YtnbohlcibgfjaaaDoorFnd12
import Derived.Test.YtnbohlcibgfjaaaDoorFnd18
import Derived.Test.YtnbohlcibgfjaaaDoorFnd16
import Derived.Test.YtnbohlcibgfjaaaDoorFnd17
section
namespace Go.Proofs.YtnbohlcibgfjaaaDoor.Gp
open Go.RowKit Go.Proofs.YtnbohlcibgfjaaaDoorW.PrintWords Go.Proofs.YtnbohlcibgfjaaaDoorW.PrintLast Go.Proofs.YtnbohlcibgfjaaaDoorW.PrintMore
set_option linter.unusedVariables false
set_option linter.unusedSimpArgs false
structure LBx (w0 W : World) (A0 : Option Addr) (n0 c0 : Nat) (b0 : Int) (b1 : ByteArray) : Prop where
  h0 : W.heap[w0.heap.size]? = some (.cells #[.slice A0 n0 c0] 24 (0, 0))
  h1 : W.heap[w0.heap.size + 1]? = some (.cells #[.int .i64 b0, .string b1] 26 (0, 0))
  bel : Below w0.heap.size w0 W
theorem LBx.keep {w0 W W1 : World} {A0 : Option Addr} {n0 c0 : Nat} {b0 : Int} {b1 : ByteArray} (h : LBx w0 W A0 n0 c0 b0 b1) (b : Below W.heap.size W W1) : LBx w0 W1 A0 n0 c0 b0 b1 :=
  ⟨blk_below h.h0 b, blk_below h.h1 b, below_step h.bel b⟩
theorem LBx.init (w : World) (A0 : Option Addr) (n0 c0 : Nat) (b0 : Int) (b1 : ByteArray) : LBx w ((w.alloc (.cells #[.slice A0 n0 c0] 24)).alloc (.cells #[.int .i64 b0, .string b1] 26)) A0 n0 c0 b0 b1 :=
  ⟨blk_alloc (blk_new w _) _, blk_new_at (by simp), by repeat (first | exact Below.refl _ _ | apply below_alloc)⟩
theorem LBx.kept {w0 W W1 : World} {A0 : Option Addr} {n0 c0 : Nat} {b0 : Int} {b1 : ByteArray} {S : Nat → Prop} (h : LBx w0 W A0 n0 c0 b0 b1) (hk : Kept W W1 S) (h0 : ¬ S w0.heap.size) (h1 : ¬ S (w0.heap.size + 1)) (hb : Below w0.heap.size w0 W1) : LBx w0 W1 A0 n0 c0 b0 b1 :=
  ⟨blk_kept h.h0 hk h0, blk_kept h.h1 hk h1, hb⟩
theorem LBx.lo {w0 W : World} {A0 : Option Addr} {n0 c0 : Nat} {b0 : Int} {b1 : ByteArray} (h : LBx w0 W A0 n0 c0 b0 b1) : w0.heap.size + 2 ≤ W.heap.size := by have := blk_lt h.h1; omega
theorem LBx.stored9 {w0 W W' : World} {A0 : Option Addr} {n0 c0 g : Nat} {b0 : Int} {b1 : ByteArray} {y0 y1 y2 y3 y4 y5 y6 y7 y8 : Value} (h : LBx w0 W A0 n0 c0 b0 b1) (hW : W' = (((((((((W.setCell ⟨g, 0, none⟩ y0).setCell ⟨g, 1, none⟩ y1).setCell ⟨g, 2, none⟩ y2).setCell ⟨g, 3, none⟩ y3).setCell ⟨g, 4, none⟩ y4).setCell ⟨g, 5, none⟩ y5).setCell ⟨g, 6, none⟩ y6).setCell ⟨g, 7, none⟩ y7).setCell ⟨g, 8, none⟩ y8)) (hg : w0.heap.size + 2 ≤ g) : LBx w0 W' A0 n0 c0 b0 b1 := by
  subst hW
  exact h.kept kept_stores9 (fun e => by omega) (fun e => by omega) (below_stores9 h.bel (by omega))
theorem heldSlot_at (k : Nat) (a0 : Int) (a1 : ByteArray) (a2 : Bool) (a3 : ByteArray) (A : Option Addr) (n c : Nat) (l : List S29) (a5 a6 a7 a8 x r : Int) (w : World) (hn : n = l.length) (hr : Kd.C k29 w A l.length l) (hc : n ≤ c) (h : laws_heldSlot.f k a0 a1 a2 a3 l a5 a6 a7 a8 x = some r) :
    Calls Tryd.prog 23 #[.agg #[.int .i64 a0, .string a1, .bool a2, .string a3, .slice A n c, .int .i64 a5, .int .i64 a6, .int .i64 a7, .int .i64 a8], .int .i64 x] w fun e w' => e = .returned (.int .i64 r) ∧ Below w.heap.size w w' := by
  subst hn
  exact laws_heldSlot.calls k a0 a1 a2 a3 A c l a5 a6 a7 a8 x r w hr hc h
def F27 (k : Nat) (l0 : List S154) (b0 : Int) (b1 : ByteArray) : Option Bool :=
  (laws_toTable.f k l0).bind fun tb => (spec_Find.f k tb b0 b1).bind fun p => (impl_Find.f k tb b0 b1).bind fun r => (laws_eqSlot.f k r.f0.f0 r.f0.f1 r.f1 r.f2 r.f3 r.f4 r.f5 r.f6 r.f7 p.1 p.2.1 p.2.2.1 p.2.2.2.1 p.2.2.2.2.1 p.2.2.2.2.2.1 p.2.2.2.2.2.2.1 p.2.2.2.2.2.2.2.1 p.2.2.2.2.2.2.2.2).bind fun e1 => (laws_eqTable.f k tb tb).bind fun e2 => (laws_markTable.f k tb 1).bind fun q => (laws_markSlot.f k r.f0.f0 r.f0.f1 r.f1 r.f2 r.f3 r.f4 r.f5 r.f6 r.f7 1).bind fun m => (laws_heldSlot.f k r.f0.f0 r.f0.f1 r.f1 r.f2 m.2 r.f4 r.f5 r.f6 r.f7 1).bind fun hq =>
    if ((e1 = true ∧ e2 = true) ∧ ¬ q.1 < 0) ∧ (¬ hq < 0 ∧ hq = m.1) then some true else none
def laws_FnExactFind.f (k : Nat) (l0 : List S154) (b0 : Int) (b1 : ByteArray) : Option Bool :=
  (laws_szTable.f k l0 1048576).bind fun t1 => if t1 < 0 then some true else (laws_szKey.f b0 b1 t1).bind fun t2 => if t2 < 0 then some true else F27 k l0 b0 b1
set_option maxHeartbeats 64000000 in
set_option maxRecDepth 100000 in
theorem laws_FnExactFind.calls (k : Nat) (A0_0 : Option Addr) (c0_0 : Nat) (l0_0 : List S154) (a1_0 : Int) (a1_1 : ByteArray) (r : Bool) (w : World) (hG : GRes w) (hr0_0 : Kd.C k154 w A0_0 l0_0.length l0_0) (hc0_0 : l0_0.length ≤ c0_0) (h : laws_FnExactFind.f k l0_0 a1_0 a1_1 = some r) :
    Calls Tryd.prog 3 #[.agg #[.slice A0_0 l0_0.length c0_0], .agg #[.int .i64 a1_0, .string a1_1]] w fun e w' => e = .returned (.bool r) ∧ Below w.heap.size w w' := by
  have hu1 := Tryd.underlying36
  have hu2 := Tryd.underlying29
  have hu3 := Tryd.underlying32
  have hu4 := Tryd.underlying24
  have hu5 := Tryd.underlying26
  unfold laws_FnExactFind.f at h
  obtain ⟨t1, ht1, h⟩ := Option.bind_eq_some_iff.mp h
  have HG := Aside0.mk hG
  have HR0 := Aside0.mk hr0_0
  have HC0 := Aside0.mk hc0_0
  have H1 := Aside0.mk ht1
  have H := Aside0.mk h
  have BX0 := Aside0.mk (LBx.init w A0_0 l0_0.length c0_0 a1_0 a1_1)
  clear hG hr0_0 hc0_0 ht1 h
  by_cases c1 : t1 < 0
  case pos =>
    have h := H.out
    rw [if_pos c1] at h
    obtain rfl := Option.some.inj h
    have c1b : decide (t1 < 0) = true := decide_eq_true c1
    clear h H c1
    go_enter Tryd.func3, Tryd.ntmps3
    go_wp2_with (first | (go_at_call 13; refine (laws_szTable.calls k A0_0 c0_0 l0_0 1048576 t1 _ (Kd.C_below HR0.out BX0.out.bel) HC0.out H1.out).mono ?_; rintro e w1 ⟨rfl, hb1⟩; have BX1 := Aside0.mk (BX0.out.keep hb1); have hk1 : w1.cell? ⟨w.heap.size + 1, 0, none⟩ = some (.int .i64 a1_0) := (blk_cell BX1.out.h1 0).trans rfl; have hk2 : w1.cell? ⟨w.heap.size + 1, 1, none⟩ = some (.string a1_1) := (blk_cell BX1.out.h1 1).trans rfl; clear hb1 BX0))
    go_ret
    exact ⟨rfl, BX1.out.bel⟩
  have h := H.out
  clear H
  rw [if_neg c1] at h
  have c1b : decide (t1 < 0) = false := decide_eq_false c1
  clear c1
  obtain ⟨t2, ht2, h⟩ := Option.bind_eq_some_iff.mp h
  have H2 := Aside0.mk ht2
  have H := Aside0.mk h
  clear ht2 h
  by_cases c2 : t2 < 0
  case pos =>
    have h := H.out
    rw [if_pos c2] at h
    obtain rfl := Option.some.inj h
    have c2b : decide (t2 < 0) = true := decide_eq_true c2
    clear h H c2
    go_enter Tryd.func3, Tryd.ntmps3
    go_wp2_with (first | (go_at_call 13; refine (laws_szTable.calls k A0_0 c0_0 l0_0 1048576 t1 _ (Kd.C_below HR0.out BX0.out.bel) HC0.out H1.out).mono ?_; rintro e w1 ⟨rfl, hb1⟩; have BX1 := Aside0.mk (BX0.out.keep hb1); have hk1 : w1.cell? ⟨w.heap.size + 1, 0, none⟩ = some (.int .i64 a1_0) := (blk_cell BX1.out.h1 0).trans rfl; have hk2 : w1.cell? ⟨w.heap.size + 1, 1, none⟩ = some (.string a1_1) := (blk_cell BX1.out.h1 1).trans rfl; clear hb1 BX0) | (go_at_call 14; refine (laws_szKey.calls a1_0 a1_1 t1 t2 _ H2.out).mono ?_; rintro e w2 ⟨rfl, hb2⟩; have BX2 := Aside0.mk (BX1.out.keep hb2); clear hb2 BX1 hk1 hk2))
    go_ret
    exact ⟨rfl, BX2.out.bel⟩
  have h := H.out
  clear H
  rw [if_neg c2] at h
  have c2b : decide (t2 < 0) = false := decide_eq_false c2
  clear c2
  unfold F27 at h
  obtain ⟨tb, htb, h⟩ := Option.bind_eq_some_iff.mp h
  obtain ⟨⟨p1, p2, p3, p4, p5, p6, p7, p8, p9⟩, hp, h⟩ := Option.bind_eq_some_iff.mp h
  obtain ⟨sv, hs, h⟩ := Option.bind_eq_some_iff.mp h
  obtain ⟨e1, he1, h⟩ := Option.bind_eq_some_iff.mp h
  obtain ⟨e2, he2, h⟩ := Option.bind_eq_some_iff.mp h
  obtain ⟨⟨q1, tb'⟩, hq, h⟩ := Option.bind_eq_some_iff.mp h
  obtain ⟨⟨m1, m2⟩, hm, h⟩ := Option.bind_eq_some_iff.mp h
  obtain ⟨y, hy, h⟩ := Option.bind_eq_some_iff.mp h
  by_cases gd : ((e1 = true ∧ e2 = true) ∧ ¬ q1 < 0) ∧ (¬ y < 0 ∧ y = m1)
  case neg => rw [if_neg gd] at h; cases h
  rw [if_pos gd] at h
  obtain rfl := Option.some.inj h
  obtain ⟨⟨⟨rfl, rfl⟩, cq⟩, cy, rfl⟩ := gd
  have HTB := Aside0.mk htb
  have HP := Aside0.mk hp
  have HSf := Aside0.mk hs
  have HE1 := Aside0.mk he1
  have HE2 := Aside0.mk he2
  have HQ := Aside0.mk hq
  have HM := Aside0.mk hm
  have HY := Aside0.mk hy
  have cqb : decide (q1 < 0) = false := decide_eq_false cq
  have cyb : decide (y < 0) = false := decide_eq_false cy
  clear htb hp hs he1 he2 hq hm hy h cq cy
  go_enter Tryd.func3, Tryd.ntmps3
  go_wp2_with (first | (go_at_call 13; refine (laws_szTable.calls k A0_0 c0_0 l0_0 1048576 t1 _ (Kd.C_below HR0.out BX0.out.bel) HC0.out H1.out).mono ?_; rintro e w1 ⟨rfl, hb1⟩; have BX1 := Aside0.mk (BX0.out.keep hb1); have hk1 : w1.cell? ⟨w.heap.size + 1, 0, none⟩ = some (.int .i64 a1_0) := (blk_cell BX1.out.h1 0).trans rfl; have hk2 : w1.cell? ⟨w.heap.size + 1, 1, none⟩ = some (.string a1_1) := (blk_cell BX1.out.h1 1).trans rfl; clear hb1 BX0) | (go_at_call 14; refine (laws_szKey.calls a1_0 a1_1 t1 t2 _ H2.out).mono ?_; rintro e w2 ⟨rfl, hb2⟩; have BX2 := Aside0.mk (BX1.out.keep hb2); clear hb2 BX1 hk1 hk2))
  refine start_ (n := 7) (S := fun w' => w'.cell? ⟨w.heap.size, 0, none⟩ = some (.slice A0_0 l0_0.length c0_0) ∧ w'.cell? ⟨w.heap.size + 1, 0, none⟩ = some (.int .i64 a1_0) ∧ w'.cell? ⟨w.heap.size + 1, 1, none⟩ = some (.string a1_1)) (ds := [6]) #[false, false, false, false, false, false, false] (by kernel_rfl) rfl rfl ⟨(blk_cell BX2.out.h0 0).trans rfl, (blk_cell BX2.out.h1 0).trans rfl, (blk_cell BX2.out.h1 1).trans rfl⟩ (fun hHeld => ?_)
  refine take_ (i := 0) (N := some 23) (v := ?_) (a' := ?_) #[true, false, false, false, false, false, false] rfl rfl (by kernel_rfl) (fun _ _ _ h => h) (Or.inl ⟨by rfl, ?_⟩) hHeld ?_ ?_
  rotate_left
  · rintro w' ⟨s0, s1, s2⟩
    go_simp
    with_reducible rfl
  rotate_left
  · simp only [Act.put, List.setIfInBounds_toArray, List.set_cons_zero, List.set_cons_succ, i64_w, i32_w]
    rfl
  refine take_ (i := 2) (N := some 25) (v := ?_) (a' := ?_) #[true, false, true, false, false, false, false] rfl rfl (by kernel_rfl) (fun _ _ _ h => h) (Or.inl ⟨by rfl, ?_⟩) hHeld ?_ ?_
  rotate_left
  · rintro w' ⟨s0, s1, s2⟩
    go_simp
    with_reducible rfl
  rotate_left
  · simp only [Act.put, List.setIfInBounds_toArray, List.set_cons_zero, List.set_cons_succ, i64_w, i32_w]
    rfl
  have HH0 := Aside0.mk hHeld
  refine join_ (σ := Nat × (Option Addr × Nat) × (Option Addr × Nat)) 1 #[true, true, true, true, true, true, false] (fun s => [(24, (.agg #[.slice s.2.1.1 tb.length s.2.1.2])), (26, (.agg #[.int .i64 a1_0, .string a1_1])), (27, (.agg #[.int .i64 p1, .string p2, .bool p3, .string p4, (.slice s.2.2.1 p5.length s.2.2.2), .int .i64 p6, .int .i64 p7, .int .i64 p8, .int .i64 p9])), (6, (.pointer (some ⟨s.1, 0, none⟩)))]) (fun s w' => w'.heap[s.1]? = some (.cells #[.int .i64 0, .string ⟨#[]⟩, .bool false, .string ⟨#[]⟩, .slice none 0 0, .int .i64 0, .int .i64 0, .int .i64 0, .int .i64 0] 32 (0, 0)) ∧ w2.heap.size ≤ s.1 ∧ Below w2.drew.heap.size w2.drew w' ∧ Kd.C k32 w' s.2.1.1 tb.length tb ∧ tb.length ≤ s.2.1.2 ∧ Kd.R k29 29 w' w2.heap.size (fun _ => True) (.slice s.2.2.1 p5.length s.2.2.2) p5) ?_ ?_
  rotate_left
  · intro hJ3
    refine join_ (σ := Nat × (Option Addr × Nat) × (Option Addr × Nat)) 2 #[true, true, true, true, false, true, false] (fun s => [(24, (.agg #[.slice s.2.1.1 tb.length s.2.1.2])), (26, (.agg #[.int .i64 a1_0, .string a1_1])), (6, (.pointer (some ⟨s.1, 0, none⟩)))]) (fun s w' => w'.heap[s.1]? = some (.cells #[.int .i64 0, .string ⟨#[]⟩, .bool false, .string ⟨#[]⟩, .slice none 0 0, .int .i64 0, .int .i64 0, .int .i64 0, .int .i64 0] 32 (0, 0)) ∧ w2.heap.size ≤ s.1 ∧ Below w2.drew.heap.size w2.drew w' ∧ Kd.C k32 w' s.2.1.1 tb.length tb ∧ tb.length ≤ s.2.1.2) ?_ ?_
    rotate_left
    · intro hJ2
      refine join_ (σ := Nat × (Option Addr × Nat) × (Option Addr × Nat)) 3 #[true, true, true, false, false, true, false] (fun s => [(24, (.agg #[.slice s.2.1.1 tb.length s.2.1.2])), (6, (.pointer (some ⟨s.1, 0, none⟩)))]) (fun s w' => w'.heap[s.1]? = some (.cells #[.int .i64 0, .string ⟨#[]⟩, .bool false, .string ⟨#[]⟩, .slice none 0 0, .int .i64 0, .int .i64 0, .int .i64 0, .int .i64 0] 32 (0, 0)) ∧ w2.heap.size ≤ s.1 ∧ Below w2.drew.heap.size w2.drew w' ∧ Kd.C k32 w' s.2.1.1 tb.length tb ∧ tb.length ≤ s.2.1.2) ?_ ?_
      rotate_left
      · intro hJ1
        refine join_ (σ := Nat × (Option Addr × Nat) × (Option Addr × Nat)) 4 #[true, false, true, false, false, true, false] (fun s => [(6, (.pointer (some ⟨s.1, 0, none⟩)))]) (fun s w' => w'.heap[s.1]? = some (.cells #[.int .i64 0, .string ⟨#[]⟩, .bool false, .string ⟨#[]⟩, .slice none 0 0, .int .i64 0, .int .i64 0, .int .i64 0, .int .i64 0] 32 (0, 0)) ∧ w2.heap.size ≤ s.1 ∧ Below w2.drew.heap.size w2.drew w') ?_ ?_
        rotate_left
        · intro hJ0
          refine two_ (i := 1) (j := 5) (Ni := some 24) (Nj := some 6) #[true, true, true, false, false, false, false] #[true, false, true, false, false, true, false] rfl rfl rfl rfl (by kernel_rfl) (by decide) (by decide) (fun K hK => ?_) (fun K hK => ?_)
          · refine goes_ Tryd.func16 rfl rfl #[.agg #[.slice A0_0 l0_0.length c0_0]] rfl rfl rfl (by (try simp only [List.map_toArray, List.map_cons, List.map_nil, List.append_toArray, List.append_nil, List.nil_append, List.cons_append]); rfl) ?_
            refine (laws_toTable.calls k A0_0 c0_0 l0_0 tb _ (Kd.C_below HR0.out (below_drew1 BX2.out.bel)) HC0.out HTB.out).mono ?_
            rintro e u0a ⟨v_, rfl, hS_, hb_u0a⟩
            obtain ⟨At_, ct_, rfl⟩ := Kd.S_slice hS_
            have hCt_ := (Kd.S_reads' hS_).2.2
            have hct_ := (Kd.S_reads' hS_).2.1
            clear hS_
            refine ⟨_, rfl, ?_⟩
            refine hK.out _ _ ⟨pw_cell_below hb_u0a hHeld.1, pw_cell_below hb_u0a hHeld.2.1, pw_cell_below hb_u0a hHeld.2.2⟩ (fun hHeld => ?_)
            clear hK K
            refine two_ (i := 3) (j := 5) (Ni := some 26) (Nj := some 6) #[true, true, true, true, false, false, false] #[true, true, true, false, false, true, false] rfl rfl rfl rfl (by kernel_rfl) (by decide) (by decide) (fun K hK => ?_) (fun K hK => ?_)
            · refine goes_ Tryd.func17 rfl rfl #[.agg #[.int .i64 a1_0, .string a1_1]] rfl rfl rfl (by (try simp only [List.map_toArray, List.map_cons, List.map_nil, List.append_toArray, List.append_nil, List.nil_append, List.cons_append]); rfl) ?_
              refine (laws_toKey.calls a1_0 a1_1 a1_0 a1_1 _ rfl).mono ?_
              rintro e u1a ⟨rfl, hb_u1a⟩
              refine ⟨_, rfl, ?_⟩
              refine hK.out _ _ ⟨pw_cell_below hb_u1a hHeld.1, pw_cell_below hb_u1a hHeld.2.1, pw_cell_below hb_u1a hHeld.2.2⟩ (fun hHeld => ?_)
              clear hK K
              refine two_ (i := 4) (j := 5) (Ni := some 27) (Nj := some 6) #[true, true, true, true, true, false, false] #[true, true, true, true, false, true, false] rfl rfl rfl rfl (by kernel_rfl) (by decide) (by decide) (fun K hK => ?_) (fun K hK => ?_)
              · refine goes_ Tryd.func15 rfl rfl #[.agg #[.slice At_ tb.length ct_], .agg #[.int .i64 a1_0, .string a1_1]] rfl rfl rfl (by (try simp only [List.map_toArray, List.map_cons, List.map_nil, List.append_toArray, List.append_nil, List.nil_append, List.cons_append]); rfl) ?_
                refine (spec_Find.calls k At_ ct_ tb a1_0 a1_1 p1 p2 p3 p4 p5 p6 p7 p8 p9 _ (Kd.C_below hCt_ hb_u1a) hct_ HP.out).mono ?_
                rintro e u2a ⟨v_, rfl, hR_, hb_u2a⟩
                obtain ⟨Ad_, cd_, rfl⟩ := Kd.R_slice hR_
                refine ⟨_, rfl, ?_⟩
                refine hK.out _ _ ⟨pw_cell_below hb_u2a hHeld.1, pw_cell_below hb_u2a hHeld.2.1, pw_cell_below hb_u2a hHeld.2.2⟩ (fun hHeld => ?_)
                clear hK K
                refine one_ (i := 5) (N := some 6) #[true, true, true, true, true, true, false] rfl rfl (by kernel_rfl) (by decide) (fun K hK => ?_)
                refine value_ (v := .pointer (some ⟨u2a.heap.size, 0, none⟩)) (w1 := u2a.alloc (.cells #[.int .i64 0, .string ⟨#[]⟩, .bool false, .string ⟨#[]⟩, .slice none 0 0, .int .i64 0, .int .i64 0, .int .i64 0, .int .i64 0] 32)) (by rfl) rfl ?_ ?_
                · go_simp
                refine hK.out _ _ ⟨pw_cell_below (below_alloc (Below.refl _ _) _) hHeld.1, pw_cell_below (below_alloc (Below.refl _ _) _) hHeld.2.1, pw_cell_below (below_alloc (Below.refl _ _) _) hHeld.2.2⟩ (fun hHeld => ?_)
                clear hK K
                exact norm_ (by first | (simp only [putAll, Act.put, sA_, slCells]; done) | (simp only [putAll, Act.put, sA_, slCells]; rfl)) (hJ3 (u2a.heap.size, (At_, ct_), (Ad_, cd_)) _ ⟨blk_new _ _, (below_size (below_step (below_drew1 (Below.refl _ _)) (below_step (below_step hb_u0a hb_u1a) hb_u2a))), below_alloc (below_step (below_step hb_u0a hb_u1a) hb_u2a) _, Kd.C_below (Kd.C_below (Kd.C_below hCt_ hb_u1a) hb_u2a) (below_alloc (Below.refl _ _) _), hct_, Kd.R_below (Kd.R_lower hR_ (below_size (below_step (below_drew1 (Below.refl _ _)) (below_step hb_u0a hb_u1a)))) (below_alloc (Below.refl _ _) _)⟩)
              · refine value_ (v := .pointer (some ⟨u1a.heap.size, 0, none⟩)) (w1 := u1a.alloc (.cells #[.int .i64 0, .string ⟨#[]⟩, .bool false, .string ⟨#[]⟩, .slice none 0 0, .int .i64 0, .int .i64 0, .int .i64 0, .int .i64 0] 32)) (by rfl) rfl ?_ ?_
                · go_simp
                refine hK.out _ _ ⟨pw_cell_below (below_alloc (Below.refl _ _) _) hHeld.1, pw_cell_below (below_alloc (Below.refl _ _) _) hHeld.2.1, pw_cell_below (below_alloc (Below.refl _ _) _) hHeld.2.2⟩ (fun hHeld => ?_)
                clear hK K
                exact norm_ (by first | (simp only [putAll, Act.put, sA_, slCells]; done) | (simp only [putAll, Act.put, sA_, slCells]; rfl)) (hJ2 (u1a.heap.size, (At_, ct_), (none, 0)) _ ⟨blk_new _ _, (below_size (below_step (below_drew1 (Below.refl _ _)) (below_step hb_u0a hb_u1a))), below_alloc (below_step hb_u0a hb_u1a) _, Kd.C_below (Kd.C_below hCt_ hb_u1a) (below_alloc (Below.refl _ _) _), hct_⟩)
            · refine value_ (v := .pointer (some ⟨u0a.heap.size, 0, none⟩)) (w1 := u0a.alloc (.cells #[.int .i64 0, .string ⟨#[]⟩, .bool false, .string ⟨#[]⟩, .slice none 0 0, .int .i64 0, .int .i64 0, .int .i64 0, .int .i64 0] 32)) (by rfl) rfl ?_ ?_
              · go_simp
              refine hK.out _ _ ⟨pw_cell_below (below_alloc (Below.refl _ _) _) hHeld.1, pw_cell_below (below_alloc (Below.refl _ _) _) hHeld.2.1, pw_cell_below (below_alloc (Below.refl _ _) _) hHeld.2.2⟩ (fun hHeld => ?_)
              clear hK K
              exact norm_ (by first | (simp only [putAll, Act.put, sA_, slCells]; done) | (simp only [putAll, Act.put, sA_, slCells]; rfl)) (hJ1 (u0a.heap.size, (At_, ct_), (none, 0)) _ ⟨blk_new _ _, (below_size (below_step (below_drew1 (Below.refl _ _)) hb_u0a)), below_alloc hb_u0a _, Kd.C_below hCt_ (below_alloc (Below.refl _ _) _), hct_⟩)
          · refine value_ (v := .pointer (some ⟨w2.drew.heap.size, 0, none⟩)) (w1 := w2.drew.alloc (.cells #[.int .i64 0, .string ⟨#[]⟩, .bool false, .string ⟨#[]⟩, .slice none 0 0, .int .i64 0, .int .i64 0, .int .i64 0, .int .i64 0] 32)) (by rfl) rfl ?_ ?_
            · go_simp
            refine hK.out _ _ ⟨pw_cell_below (below_alloc (Below.refl _ _) _) hHeld.1, pw_cell_below (below_alloc (Below.refl _ _) _) hHeld.2.1, pw_cell_below (below_alloc (Below.refl _ _) _) hHeld.2.2⟩ (fun hHeld => ?_)
            clear hK K
            exact norm_ (by first | (simp only [putAll, Act.put, sA_, slCells]; done) | (simp only [putAll, Act.put, sA_, slCells]; rfl)) (hJ0 (w2.drew.heap.size, (none, 0), (none, 0)) _ ⟨blk_new _ _, (below_size (below_step (below_drew1 (Below.refl _ _)) (Below.refl _ _))), below_alloc (Below.refl _ _) _⟩)
        · rintro ⟨gw_, ⟨At0_, ct0_⟩, ⟨Ad0_, cd0_⟩⟩ wj_ ⟨hg_, hge_, hb_⟩
          refine norm_ (a' := ?_) ?_ ?_
          rotate_left
          · simp only [putAll, Act.put, sA_]
            rfl
          refine one_ (i := 1) (N := some 24) #[true, true, true, false, false, true, false] rfl rfl (by kernel_rfl) (by decide) (fun K hK => ?_)
          refine goes_ Tryd.func16 rfl rfl #[.agg #[.slice A0_0 l0_0.length c0_0]] rfl rfl rfl (by (try simp only [List.map_toArray, List.map_cons, List.map_nil, List.append_toArray, List.append_nil, List.nil_append, List.cons_append]); rfl) ?_
          refine (laws_toTable.calls k A0_0 c0_0 l0_0 tb _ (Kd.C_below HR0.out (below_step BX2.out.bel (below_step (below_drew1 (Below.refl _ _)) hb_))) HC0.out HTB.out).mono ?_
          rintro e u0a ⟨v_, rfl, hS_, hb_u0a⟩
          obtain ⟨At_, ct_, rfl⟩ := Kd.S_slice hS_
          have hCt_ := (Kd.S_reads' hS_).2.2
          have hct_ := (Kd.S_reads' hS_).2.1
          clear hS_
          refine ⟨_, rfl, ?_⟩
          refine hK.out _ _ ⟨pw_cell_below (below_step hb_ hb_u0a) HH0.out.1, pw_cell_below (below_step hb_ hb_u0a) HH0.out.2.1, pw_cell_below (below_step hb_ hb_u0a) HH0.out.2.2⟩ (fun hHeld => ?_)
          clear hK K
          exact norm_ (by first | (simp only [putAll, Act.put, sA_, slCells]; done) | (simp only [putAll, Act.put, sA_, slCells]; rfl)) (hJ1 (gw_, (At_, ct_), (none, 0)) _ ⟨blk_below hg_ hb_u0a, hge_, below_step hb_ hb_u0a, hCt_, hct_⟩)
      · rintro ⟨gw_, ⟨At0_, ct0_⟩, ⟨Ad0_, cd0_⟩⟩ wj_ ⟨hg_, hge_, hb_, hC_, hc_⟩
        refine norm_ (a' := ?_) ?_ ?_
        rotate_left
        · simp only [putAll, Act.put, sA_]
          rfl
        refine one_ (i := 3) (N := some 26) #[true, true, true, true, false, true, false] rfl rfl (by kernel_rfl) (by decide) (fun K hK => ?_)
        refine goes_ Tryd.func17 rfl rfl #[.agg #[.int .i64 a1_0, .string a1_1]] rfl rfl rfl (by (try simp only [List.map_toArray, List.map_cons, List.map_nil, List.append_toArray, List.append_nil, List.nil_append, List.cons_append]); rfl) ?_
        refine (laws_toKey.calls a1_0 a1_1 a1_0 a1_1 _ rfl).mono ?_
        rintro e u1a ⟨rfl, hb_u1a⟩
        refine ⟨_, rfl, ?_⟩
        refine hK.out _ _ ⟨pw_cell_below (below_step hb_ hb_u1a) HH0.out.1, pw_cell_below (below_step hb_ hb_u1a) HH0.out.2.1, pw_cell_below (below_step hb_ hb_u1a) HH0.out.2.2⟩ (fun hHeld => ?_)
        clear hK K
        exact norm_ (by first | (simp only [putAll, Act.put, sA_, slCells]; done) | (simp only [putAll, Act.put, sA_, slCells]; rfl)) (hJ2 (gw_, (At0_, ct0_), (none, 0)) _ ⟨blk_below hg_ hb_u1a, hge_, below_step hb_ hb_u1a, Kd.C_below hC_ hb_u1a, hc_⟩)
    · rintro ⟨gw_, ⟨At0_, ct0_⟩, ⟨Ad0_, cd0_⟩⟩ wj_ ⟨hg_, hge_, hb_, hC_, hc_⟩
      refine norm_ (a' := ?_) ?_ ?_
      rotate_left
      · simp only [putAll, Act.put, sA_]
        rfl
      refine one_ (i := 4) (N := some 27) #[true, true, true, true, true, true, false] rfl rfl (by kernel_rfl) (by decide) (fun K hK => ?_)
      refine goes_ Tryd.func15 rfl rfl #[.agg #[.slice At0_ tb.length ct0_], .agg #[.int .i64 a1_0, .string a1_1]] rfl rfl rfl (by (try simp only [List.map_toArray, List.map_cons, List.map_nil, List.append_toArray, List.append_nil, List.nil_append, List.cons_append]); rfl) ?_
      refine (spec_Find.calls k At0_ ct0_ tb a1_0 a1_1 p1 p2 p3 p4 p5 p6 p7 p8 p9 _ hC_ hc_ HP.out).mono ?_
      rintro e u2a ⟨v_, rfl, hR_, hb_u2a⟩
      obtain ⟨Ad_, cd_, rfl⟩ := Kd.R_slice hR_
      refine ⟨_, rfl, ?_⟩
      refine hK.out _ _ ⟨pw_cell_below (below_step hb_ hb_u2a) HH0.out.1, pw_cell_below (below_step hb_ hb_u2a) HH0.out.2.1, pw_cell_below (below_step hb_ hb_u2a) HH0.out.2.2⟩ (fun hHeld => ?_)
      clear hK K
      exact norm_ (by first | (simp only [putAll, Act.put, sA_, slCells]; done) | (simp only [putAll, Act.put, sA_, slCells]; rfl)) (hJ3 (gw_, (At0_, ct0_), (Ad_, cd_)) _ ⟨blk_below hg_ hb_u2a, hge_, below_step hb_ hb_u2a, Kd.C_below hC_ hb_u2a, hc_, Kd.R_lower hR_ (below_size (below_step (below_drew1 (Below.refl _ _)) hb_))⟩)
  rintro ⟨gw, ⟨At, ct⟩, ⟨Ad, cd⟩⟩ wj ⟨hg, hge, hb, _, _, hR⟩
  refine norm_ (a' := ?_) ?_ ?_
  rotate_left
  · simp only [putAll, Act.put, sA_]
    rfl
  refine last_ (i := 6) (N := none) #[true, true, true, true, true, true, true] rfl rfl (by kernel_rfl) (by decide) (fun K hK => ?_)
  obtain ⟨hc0, hc1, hc2, hc3, hc4, hc5, hc6, hc7, hc8, hf0, hf1, hf2, hf3, hf4, hf5, hf6, hf7, hf8⟩ := bkA9 hg
  refine skip_ (w1 := (((((((((wj.setCell ⟨gw, 0, none⟩ (.int .i64 p1)).setCell ⟨gw, 1, none⟩ (.string p2)).setCell ⟨gw, 2, none⟩ (.bool p3)).setCell ⟨gw, 3, none⟩ (.string p4)).setCell ⟨gw, 4, none⟩ ((.slice Ad p5.length cd))).setCell ⟨gw, 5, none⟩ (.int .i64 p6)).setCell ⟨gw, 6, none⟩ (.int .i64 p7)).setCell ⟨gw, 7, none⟩ (.int .i64 p8)).setCell ⟨gw, 8, none⟩ (.int .i64 p9))) (by rfl) rfl ?_ ?_
  · go_simp
  clear hc0 hf0 hc1 hf1 hc2 hf2 hc3 hf3 hc4 hf4 hc5 hf5 hc6 hf6 hc7 hf7 hc8 hf8
  refine hK.out _ _ ?_
  clear hK K
  refine done_ (by kernel_rfl) ?_
  obtain ⟨w3, hw3⟩ : ∃ W_ : World, W_ = (((((((((wj.setCell ⟨gw, 0, none⟩ (.int .i64 p1)).setCell ⟨gw, 1, none⟩ (.string p2)).setCell ⟨gw, 2, none⟩ (.bool p3)).setCell ⟨gw, 3, none⟩ (.string p4)).setCell ⟨gw, 4, none⟩ ((.slice Ad p5.length cd))).setCell ⟨gw, 5, none⟩ (.int .i64 p6)).setCell ⟨gw, 6, none⟩ (.int .i64 p7)).setCell ⟨gw, 7, none⟩ (.int .i64 p8)).setCell ⟨gw, 8, none⟩ (.int .i64 p9)) := ⟨_, rfl⟩
  rw [← hw3]
  have BX3 := Aside0.mk ((BX2.out.keep (below_step (below_drew1 (Below.refl _ _)) hb)).stored9 hw3 (Nat.le_trans BX2.out.lo hge))
  have RW3 := Aside0.mk (show ResR k29 29 32 w w3 w2.heap.size w3.heap.size gw #[.int .i64 p1, .string p2, .bool p3, .string p4, (.slice Ad p5.length cd), .int .i64 p6, .int .i64 p7, .int .i64 p8, .int .i64 p9] (.slice Ad p5.length cd) p5 from ResR.stored9 hw3 hg hge (below_size BX2.out.bel) hR (by decide))
  clear hw3 hb hR hg hge BX2 HH0
  have hk1 : w3.cell? ⟨w.heap.size, 0, none⟩ = some (.slice A0_0 l0_0.length c0_0) := (blk_cell BX3.out.h0 0).trans rfl
  go_wp2_with (go_at_call 16; refine (laws_toTable.calls k A0_0 c0_0 l0_0 tb _ (Kd.C_below HR0.out BX3.out.bel) HC0.out HTB.out).mono ?_; rintro e w4 ⟨v_, rfl, hS, hb4⟩; obtain ⟨Ax, cx, rfl⟩ := Kd.S_slice hS; have BX4 := Aside0.mk (BX3.out.keep hb4); have RW4 := Aside0.mk (RW3.out.keep hb4); have HS4 := Aside0.mk hS; have HB3 := Aside0.mk BX3.out.bel; have HB4 := Aside0.mk hb4; have HLO0 := Aside0.mk BX3.out.lo; clear hS hb4 BX3 RW3 hk1)
  obtain ⟨w5, hw5⟩ : ∃ W_ : World, W_ = w4.alloc (.cells #[.slice Ax tb.length cx] 36) := ⟨_, rfl⟩
  rw [← hw5]
  have hb5 : Below w4.heap.size w4 w5 := by rw [hw5]; exact below_alloc (Below.refl _ _) _
  have hx5 : w5.heap[w4.heap.size]? = some (.cells #[.slice Ax tb.length cx] 36 (0, 0)) := by rw [hw5]; exact blk_new _ _
  have BX5 := Aside0.mk (BX4.out.keep hb5)
  have RW5 := Aside0.mk (RW4.out.keep hb5)
  have RX5 := Aside0.mk (show ResS k32 32 36 w w5 w3.heap.size w5.heap.size w4.heap.size #[.slice Ax tb.length cx] (.slice Ax tb.length cx) tb from ResS.mk2 hx5 HB4.out.size (blk_lt hx5) rfl (below_size HB3.out) (Kd.S_below HS4.out hb5) (by decide))
  clear hw5 hb5 hx5 BX4 RW4 HS4
  refine start_ (n := 6) (S := fun w' => w'.cell? ⟨w4.heap.size, 0, none⟩ = some (.slice Ax tb.length cx) ∧ w'.cell? ⟨w.heap.size + 1, 0, none⟩ = some (.int .i64 a1_0) ∧ w'.cell? ⟨w.heap.size + 1, 1, none⟩ = some (.string a1_1)) (ds := [5]) #[false, false, false, false, false, false] (by kernel_rfl) rfl rfl ⟨(blk_cell RX5.out.b 0).trans rfl, (blk_cell BX5.out.h1 0).trans rfl, (blk_cell BX5.out.h1 1).trans rfl⟩ (fun hHeld => ?_)
  refine take_ (i := 0) (N := some 30) (v := ?_) (a' := ?_) #[true, false, false, false, false, false] rfl rfl (by kernel_rfl) (fun _ _ _ h => h) (Or.inl ⟨by rfl, ?_⟩) hHeld ?_ ?_
  rotate_left
  · rintro w' ⟨s0, s1, s2⟩
    go_simp
    with_reducible rfl
  rotate_left
  · simp only [Act.put, List.setIfInBounds_toArray, List.set_cons_zero, List.set_cons_succ, i64_w, i32_w]
    rfl
  refine take_ (i := 1) (N := some 31) (v := ?_) (a' := ?_) #[true, true, false, false, false, false] rfl rfl (by kernel_rfl) (fun _ _ _ h => h) (Or.inl ⟨by rfl, ?_⟩) hHeld ?_ ?_
  rotate_left
  · rintro w' ⟨s0, s1, s2⟩
    go_simp
    with_reducible rfl
  rotate_left
  · simp only [Act.put, List.setIfInBounds_toArray, List.set_cons_zero, List.set_cons_succ, i64_w, i32_w]
    rfl
  have HH0 := Aside0.mk hHeld
  refine join_ (σ := Nat × (Option Addr × Nat) × (Option Addr × Nat)) 1 #[true, true, true, true, true, false] (fun s => [(32, (.agg #[.int .i64 a1_0, .string a1_1])), (33, (.agg #[.int .i64 sv.f0.f0, .string sv.f0.f1, .bool sv.f1, .string sv.f2, (.slice s.2.2.1 sv.f3.length s.2.2.2), .int .i64 sv.f4, .int .i64 sv.f5, .int .i64 sv.f6, .int .i64 sv.f7])), (8, (.pointer (some ⟨s.1, 0, none⟩)))]) (fun s w' => w'.heap[s.1]? = some (.cells #[.int .i64 0, .string ⟨#[]⟩, .bool false, .string ⟨#[]⟩, .slice none 0 0, .int .i64 0, .int .i64 0, .int .i64 0, .int .i64 0] 32 (0, 0)) ∧ w5.heap.size ≤ s.1 ∧ Below w5.drew.heap.size w5.drew w' ∧ Kd.R k29 29 w' w5.heap.size (fun _ => True) (.slice s.2.2.1 sv.f3.length s.2.2.2) sv.f3) ?_ ?_
  rotate_left
  · intro hJ2
    refine join_ (σ := Nat × (Option Addr × Nat) × (Option Addr × Nat)) 2 #[true, true, true, false, true, false] (fun s => [(32, (.agg #[.int .i64 a1_0, .string a1_1])), (8, (.pointer (some ⟨s.1, 0, none⟩)))]) (fun s w' => w'.heap[s.1]? = some (.cells #[.int .i64 0, .string ⟨#[]⟩, .bool false, .string ⟨#[]⟩, .slice none 0 0, .int .i64 0, .int .i64 0, .int .i64 0, .int .i64 0] 32 (0, 0)) ∧ w5.heap.size ≤ s.1 ∧ Below w5.drew.heap.size w5.drew w') ?_ ?_
    rotate_left
    · intro hJ1
      refine join_ (σ := Nat × (Option Addr × Nat) × (Option Addr × Nat)) 3 #[true, true, false, false, true, false] (fun s => [(8, (.pointer (some ⟨s.1, 0, none⟩)))]) (fun s w' => w'.heap[s.1]? = some (.cells #[.int .i64 0, .string ⟨#[]⟩, .bool false, .string ⟨#[]⟩, .slice none 0 0, .int .i64 0, .int .i64 0, .int .i64 0, .int .i64 0] 32 (0, 0)) ∧ w5.heap.size ≤ s.1 ∧ Below w5.drew.heap.size w5.drew w') ?_ ?_
      rotate_left
      · intro hJ0
        refine two_ (i := 2) (j := 4) (Ni := some 32) (Nj := some 8) #[true, true, true, false, false, false] #[true, true, false, false, true, false] rfl rfl rfl rfl (by kernel_rfl) (by decide) (by decide) (fun K hK => ?_) (fun K hK => ?_)
        · refine goes_ Tryd.func17 rfl rfl #[.agg #[.int .i64 a1_0, .string a1_1]] rfl rfl rfl (by (try simp only [List.map_toArray, List.map_cons, List.map_nil, List.append_toArray, List.append_nil, List.nil_append, List.cons_append]); rfl) ?_
          refine (laws_toKey.calls a1_0 a1_1 a1_0 a1_1 _ rfl).mono ?_
          rintro e u0b ⟨rfl, hb_u0b⟩
          refine ⟨_, rfl, ?_⟩
          refine hK.out _ _ ⟨pw_cell_below hb_u0b hHeld.1, pw_cell_below hb_u0b hHeld.2.1, pw_cell_below hb_u0b hHeld.2.2⟩ (fun hHeld => ?_)
          clear hK K
          refine two_ (i := 3) (j := 4) (Ni := some 33) (Nj := some 8) #[true, true, true, true, false, false] #[true, true, true, false, true, false] rfl rfl rfl rfl (by kernel_rfl) (by decide) (by decide) (fun K hK => ?_) (fun K hK => ?_)
          · refine goes_ Tryd.func18 rfl rfl #[.agg #[.slice Ax tb.length cx], .agg #[.int .i64 a1_0, .string a1_1]] rfl rfl rfl (by (try simp only [List.map_toArray, List.map_cons, List.map_nil, List.append_toArray, List.append_nil, List.nil_append, List.cons_append]); rfl) ?_
            refine (impl_Find.calls k Ax cx tb a1_0 a1_1 sv _ (HG.out.below (below_step BX5.out.bel (below_step (below_drew1 (Below.refl _ _)) hb_u0b))) (Kd.C_below (Kd.C_drew RX5.out.reads.2.2) hb_u0b) RX5.out.reads.2.1 HSf.out).mono ?_
            rintro e u1b ⟨v_, rfl, hR_, hb_u1b⟩
            obtain ⟨Ad_, cd_, rfl⟩ := Kd.R_slice hR_
            refine ⟨_, rfl, ?_⟩
            refine hK.out _ _ ⟨pw_cell_below hb_u1b hHeld.1, pw_cell_below hb_u1b hHeld.2.1, pw_cell_below hb_u1b hHeld.2.2⟩ (fun hHeld => ?_)
            clear hK K
            refine one_ (i := 4) (N := some 8) #[true, true, true, true, true, false] rfl rfl (by kernel_rfl) (by decide) (fun K hK => ?_)
            refine value_ (v := .pointer (some ⟨u1b.heap.size, 0, none⟩)) (w1 := u1b.alloc (.cells #[.int .i64 0, .string ⟨#[]⟩, .bool false, .string ⟨#[]⟩, .slice none 0 0, .int .i64 0, .int .i64 0, .int .i64 0, .int .i64 0] 32)) (by rfl) rfl ?_ ?_
            · go_simp
            refine hK.out _ _ ⟨pw_cell_below (below_alloc (Below.refl _ _) _) hHeld.1, pw_cell_below (below_alloc (Below.refl _ _) _) hHeld.2.1, pw_cell_below (below_alloc (Below.refl _ _) _) hHeld.2.2⟩ (fun hHeld => ?_)
            clear hK K
            exact norm_ (by first | (simp only [putAll, Act.put, sA_, slCells]; done) | (simp only [putAll, Act.put, sA_, slCells]; rfl)) (hJ2 (u1b.heap.size, (none, 0), (Ad_, cd_)) _ ⟨blk_new _ _, (below_size (below_step (below_drew1 (Below.refl _ _)) (below_step hb_u0b hb_u1b))), below_alloc (below_step hb_u0b hb_u1b) _, Kd.R_below (Kd.R_lower hR_ (below_size (below_step (below_drew1 (Below.refl _ _)) hb_u0b))) (below_alloc (Below.refl _ _) _)⟩)
          · refine value_ (v := .pointer (some ⟨u0b.heap.size, 0, none⟩)) (w1 := u0b.alloc (.cells #[.int .i64 0, .string ⟨#[]⟩, .bool false, .string ⟨#[]⟩, .slice none 0 0, .int .i64 0, .int .i64 0, .int .i64 0, .int .i64 0] 32)) (by rfl) rfl ?_ ?_
            · go_simp
            refine hK.out _ _ ⟨pw_cell_below (below_alloc (Below.refl _ _) _) hHeld.1, pw_cell_below (below_alloc (Below.refl _ _) _) hHeld.2.1, pw_cell_below (below_alloc (Below.refl _ _) _) hHeld.2.2⟩ (fun hHeld => ?_)
            clear hK K
            exact norm_ (by first | (simp only [putAll, Act.put, sA_, slCells]; done) | (simp only [putAll, Act.put, sA_, slCells]; rfl)) (hJ1 (u0b.heap.size, (none, 0), (none, 0)) _ ⟨blk_new _ _, (below_size (below_step (below_drew1 (Below.refl _ _)) hb_u0b)), below_alloc hb_u0b _⟩)
        · refine value_ (v := .pointer (some ⟨w5.drew.heap.size, 0, none⟩)) (w1 := w5.drew.alloc (.cells #[.int .i64 0, .string ⟨#[]⟩, .bool false, .string ⟨#[]⟩, .slice none 0 0, .int .i64 0, .int .i64 0, .int .i64 0, .int .i64 0] 32)) (by rfl) rfl ?_ ?_
          · go_simp
          refine hK.out _ _ ⟨pw_cell_below (below_alloc (Below.refl _ _) _) hHeld.1, pw_cell_below (below_alloc (Below.refl _ _) _) hHeld.2.1, pw_cell_below (below_alloc (Below.refl _ _) _) hHeld.2.2⟩ (fun hHeld => ?_)
          clear hK K
          exact norm_ (by first | (simp only [putAll, Act.put, sA_, slCells]; done) | (simp only [putAll, Act.put, sA_, slCells]; rfl)) (hJ0 (w5.drew.heap.size, (none, 0), (none, 0)) _ ⟨blk_new _ _, (below_size (below_step (below_drew1 (Below.refl _ _)) (Below.refl _ _))), below_alloc (Below.refl _ _) _⟩)
      · rintro ⟨gw_, ⟨At0_, ct0_⟩, ⟨Ad0_, cd0_⟩⟩ wj_ ⟨hg_, hge_, hb_⟩
        refine norm_ (a' := ?_) ?_ ?_
        rotate_left
        · simp only [putAll, Act.put, sA_]
          rfl
        refine one_ (i := 2) (N := some 32) #[true, true, true, false, true, false] rfl rfl (by kernel_rfl) (by decide) (fun K hK => ?_)
        refine goes_ Tryd.func17 rfl rfl #[.agg #[.int .i64 a1_0, .string a1_1]] rfl rfl rfl (by (try simp only [List.map_toArray, List.map_cons, List.map_nil, List.append_toArray, List.append_nil, List.nil_append, List.cons_append]); rfl) ?_
        refine (laws_toKey.calls a1_0 a1_1 a1_0 a1_1 _ rfl).mono ?_
        rintro e u0b ⟨rfl, hb_u0b⟩
        refine ⟨_, rfl, ?_⟩
        refine hK.out _ _ ⟨pw_cell_below (below_step hb_ hb_u0b) HH0.out.1, pw_cell_below (below_step hb_ hb_u0b) HH0.out.2.1, pw_cell_below (below_step hb_ hb_u0b) HH0.out.2.2⟩ (fun hHeld => ?_)
        clear hK K
        exact norm_ (by first | (simp only [putAll, Act.put, sA_, slCells]; done) | (simp only [putAll, Act.put, sA_, slCells]; rfl)) (hJ1 (gw_, (none, 0), (none, 0)) _ ⟨blk_below hg_ hb_u0b, hge_, below_step hb_ hb_u0b⟩)
    · rintro ⟨gw_, ⟨At0_, ct0_⟩, ⟨Ad0_, cd0_⟩⟩ wj_ ⟨hg_, hge_, hb_⟩
      refine norm_ (a' := ?_) ?_ ?_
      rotate_left
      · simp only [putAll, Act.put, sA_]
        rfl
      refine one_ (i := 3) (N := some 33) #[true, true, true, true, true, false] rfl rfl (by kernel_rfl) (by decide) (fun K hK => ?_)
      refine goes_ Tryd.func18 rfl rfl #[.agg #[.slice Ax tb.length cx], .agg #[.int .i64 a1_0, .string a1_1]] rfl rfl rfl (by (try simp only [List.map_toArray, List.map_cons, List.map_nil, List.append_toArray, List.append_nil, List.nil_append, List.cons_append]); rfl) ?_
      refine (impl_Find.calls k Ax cx tb a1_0 a1_1 sv _ (HG.out.below (below_step BX5.out.bel (below_step (below_drew1 (Below.refl _ _)) hb_))) (Kd.C_below (Kd.C_drew RX5.out.reads.2.2) hb_) RX5.out.reads.2.1 HSf.out).mono ?_
      rintro e u1b ⟨v_, rfl, hR_, hb_u1b⟩
      obtain ⟨Ad_, cd_, rfl⟩ := Kd.R_slice hR_
      refine ⟨_, rfl, ?_⟩
      refine hK.out _ _ ⟨pw_cell_below (below_step hb_ hb_u1b) HH0.out.1, pw_cell_below (below_step hb_ hb_u1b) HH0.out.2.1, pw_cell_below (below_step hb_ hb_u1b) HH0.out.2.2⟩ (fun hHeld => ?_)
      clear hK K
      exact norm_ (by first | (simp only [putAll, Act.put, sA_, slCells]; done) | (simp only [putAll, Act.put, sA_, slCells]; rfl)) (hJ2 (gw_, (none, 0), (Ad_, cd_)) _ ⟨blk_below hg_ hb_u1b, hge_, below_step hb_ hb_u1b, Kd.R_lower hR_ (below_size (below_step (below_drew1 (Below.refl _ _)) hb_))⟩)
  rintro ⟨gg, ⟨_, _⟩, ⟨Ag, cg⟩⟩ wj ⟨hg, hge, hb, hR⟩
  refine norm_ (a' := ?_) ?_ ?_
  rotate_left
  · simp only [putAll, Act.put, sA_]
    rfl
  refine last_ (i := 5) (N := none) #[true, true, true, true, true, true] rfl rfl (by kernel_rfl) (by decide) (fun K hK => ?_)
  obtain ⟨hc0, hc1, hc2, hc3, hc4, hc5, hc6, hc7, hc8, hf0, hf1, hf2, hf3, hf4, hf5, hf6, hf7, hf8⟩ := bkA9 hg
  refine skip_ (w1 := (((((((((wj.setCell ⟨gg, 0, none⟩ (.int .i64 sv.f0.f0)).setCell ⟨gg, 1, none⟩ (.string sv.f0.f1)).setCell ⟨gg, 2, none⟩ (.bool sv.f1)).setCell ⟨gg, 3, none⟩ (.string sv.f2)).setCell ⟨gg, 4, none⟩ ((.slice Ag sv.f3.length cg))).setCell ⟨gg, 5, none⟩ (.int .i64 sv.f4)).setCell ⟨gg, 6, none⟩ (.int .i64 sv.f5)).setCell ⟨gg, 7, none⟩ (.int .i64 sv.f6)).setCell ⟨gg, 8, none⟩ (.int .i64 sv.f7))) (by rfl) rfl ?_ ?_
  · go_simp
  clear hc0 hf0 hc1 hf1 hc2 hf2 hc3 hf3 hc4 hf4 hc5 hf5 hc6 hf6 hc7 hf7 hc8 hf8
  refine hK.out _ _ ?_
  clear hK K
  refine done_ (by kernel_rfl) ?_
  obtain ⟨w6, hw6⟩ : ∃ W_ : World, W_ = (((((((((wj.setCell ⟨gg, 0, none⟩ (.int .i64 sv.f0.f0)).setCell ⟨gg, 1, none⟩ (.string sv.f0.f1)).setCell ⟨gg, 2, none⟩ (.bool sv.f1)).setCell ⟨gg, 3, none⟩ (.string sv.f2)).setCell ⟨gg, 4, none⟩ ((.slice Ag sv.f3.length cg))).setCell ⟨gg, 5, none⟩ (.int .i64 sv.f4)).setCell ⟨gg, 6, none⟩ (.int .i64 sv.f5)).setCell ⟨gg, 7, none⟩ (.int .i64 sv.f6)).setCell ⟨gg, 8, none⟩ (.int .i64 sv.f7)) := ⟨_, rfl⟩
  rw [← hw6]
  have hbj := below_step (below_drew1 (Below.refl _ _)) hb
  have BX6 := Aside0.mk ((BX5.out.keep hbj).stored9 hw6 (Nat.le_trans BX5.out.lo hge))
  have RW6 := Aside0.mk ((RW5.out.keep hbj).kept (show Kept wj w6 (fun k => k = gg) by rw [hw6]; exact kept_stores9) (fun k e_ => by have := RW5.out.sz; have := e_; omega))
  have RX6 := Aside0.mk ((RX5.out.keep hbj).kept (show Kept wj w6 (fun k => k = gg) by rw [hw6]; exact kept_stores9) (fun k e_ => by have := RX5.out.sz; have := e_; omega))
  have RG6 := Aside0.mk (show ResR k29 29 32 w w6 w5.heap.size w6.heap.size gg #[.int .i64 sv.f0.f0, .string sv.f0.f1, .bool sv.f1, .string sv.f2, (.slice Ag sv.f3.length cg), .int .i64 sv.f4, .int .i64 sv.f5, .int .i64 sv.f6, .int .i64 sv.f7] (.slice Ag sv.f3.length cg) sv.f3 from ResR.stored9 hw6 hg hge (below_size BX5.out.bel) hR (by decide))
  have HSZ6 := Aside0.mk (show w5.heap.size ≤ w6.heap.size from Nat.le_trans hge (Nat.le_of_lt RG6.out.lt))
  clear hw6 hb hbj hR hg hge HH0 BX5 RW5 RX5
  obtain ⟨ha0, ha1, ha2, ha3, ha4, ha5, ha6, ha7, ha8, haf0, haf1, haf2, haf3, haf4, haf5, haf6, haf7, haf8⟩ := bkA9 RG6.out.b
  obtain ⟨hd0, hd1, hd2, hd3, hd4, hd5, hd6, hd7, hd8, hdf0, hdf1, hdf2, hdf3, hdf4, hdf5, hdf6, hdf7, hdf8⟩ := bkA9 RW6.out.b
  go_wp2_with (go_at_call 19; refine (laws_eqSlot.calls k sv.f0.f0 sv.f0.f1 sv.f1 sv.f2 Ag cg sv.f3 sv.f4 sv.f5 sv.f6 sv.f7 p1 p2 p3 p4 Ad cd p5 p6 p7 p8 p9 true _ RG6.out.reads.2.2 RG6.out.reads.2.1 RW6.out.reads.2.2 RW6.out.reads.2.1 HE1.out).mono ?_; rintro e w7 ⟨rfl, hb⟩; have BX7 := Aside0.mk (BX6.out.keep hb); have RW7 := Aside0.mk (RW6.out.keep hb); have RX7 := Aside0.mk (RX6.out.keep hb); have RG7 := Aside0.mk (RG6.out.keep hb); clear hb BX6 RW6 RX6 RG6; clear ha0 haf0 ha1 haf1 ha2 haf2 ha3 haf3 ha4 haf4 ha5 haf5 ha6 haf6 ha7 haf7 ha8 haf8; clear hd0 hdf0 hd1 hdf1 hd2 hdf2 hd3 hdf3 hd4 hdf4 hd5 hdf5 hd6 hdf6 hd7 hdf7 hd8 hdf8)
  refine start_ (n := 5) (S := fun w' => w'.cell? ⟨w4.heap.size, 0, none⟩ = some (.slice Ax tb.length cx) ∧ w'.cell? ⟨w.heap.size, 0, none⟩ = some (.slice A0_0 l0_0.length c0_0)) (ds := [42]) #[false, false, false, false, false] (by kernel_rfl) rfl rfl ⟨(blk_cell RX7.out.b 0).trans rfl, (blk_cell BX7.out.h0 0).trans rfl⟩ (fun hHeld => ?_)
  refine take_ (i := 0) (N := some 38) (v := ?_) (a' := ?_) #[true, false, false, false, false] rfl rfl (by kernel_rfl) (fun _ _ _ h => h) (Or.inl ⟨by rfl, ?_⟩) hHeld ?_ ?_
  rotate_left
  · rintro w' ⟨s0, s1⟩
    go_simp
    with_reducible rfl
  rotate_left
  · simp only [Act.put, List.setIfInBounds_toArray, List.set_cons_zero, List.set_cons_succ, i64_w, i32_w]
    rfl
  refine take_ (i := 1) (N := some 39) (v := ?_) (a' := ?_) #[true, true, false, false, false] rfl rfl (by kernel_rfl) (fun _ _ _ h => h) (Or.inl ⟨by rfl, ?_⟩) hHeld ?_ ?_
  rotate_left
  · rintro w' ⟨s0, s1⟩
    go_simp
    with_reducible rfl
  rotate_left
  · simp only [Act.put, List.setIfInBounds_toArray, List.set_cons_zero, List.set_cons_succ, i64_w, i32_w]
    rfl
  refine one_ (i := 2) (N := some 40) #[true, true, true, false, false] rfl rfl (by kernel_rfl) (by decide) (fun K hK => ?_)
  refine goes_ Tryd.func16 rfl rfl #[.agg #[.slice A0_0 l0_0.length c0_0]] rfl rfl rfl (by (try simp only [List.map_toArray, List.map_cons, List.map_nil, List.append_toArray, List.append_nil, List.nil_append, List.cons_append]); rfl) ?_
  refine (laws_toTable.calls k A0_0 c0_0 l0_0 tb _ (Kd.C_below HR0.out (below_drew1 BX7.out.bel)) HC0.out HTB.out).mono ?_
  rintro e w8 ⟨v_, rfl, hS, hb⟩
  obtain ⟨At, ct, rfl⟩ := Kd.S_slice hS
  refine ⟨_, rfl, ?_⟩
  have hbj := below_step (below_drew1 (Below.refl _ _)) hb
  have BX8 := Aside0.mk (BX7.out.keep hbj); have RW8 := Aside0.mk (RW7.out.keep hbj); have RX8 := Aside0.mk (RX7.out.keep hbj); have RG8 := Aside0.mk (RG7.out.keep hbj)
  refine hK.out _ _ ⟨pw_cell_below hb hHeld.1, pw_cell_below hb hHeld.2⟩ (fun hHeld => ?_)
  clear hK K
  refine norm_ (a' := ?_) ?_ ?_
  rotate_left
  · show Act.put _ (some 40) _ = _
    simp only [Act.put, List.setIfInBounds_toArray, List.set_cons_zero, List.set_cons_succ, i64_w, i32_w]
    rfl
  have HS8 := Aside0.mk hS
  clear hS hb hbj BX7 RW7 RX7 RG7
  refine one_ (i := 3) (N := some 41) #[true, true, true, true, false] rfl rfl (by kernel_rfl) (by decide) (fun K hK => ?_)
  refine goes_ Tryd.func20 rfl rfl #[.agg #[.slice Ax tb.length cx], .agg #[.slice At tb.length ct]] rfl rfl rfl (by (try simp only [List.map_toArray, List.map_cons, List.map_nil, List.append_toArray, List.append_nil, List.nil_append, List.cons_append]); rfl) ?_
  refine (laws_eqTable.calls k Ax cx tb At ct tb true _ RX8.out.reads.2.2 RX8.out.reads.2.1 (Kd.S_reads' HS8.out).2.2 (Kd.S_reads' HS8.out).2.1 HE2.out).mono ?_
  rintro e w9 ⟨rfl, hb⟩
  refine ⟨_, rfl, ?_⟩
  have BX9 := Aside0.mk (BX8.out.keep hb); have RW9 := Aside0.mk (RW8.out.keep hb); have RX9 := Aside0.mk (RX8.out.keep hb); have RG9 := Aside0.mk (RG8.out.keep hb)
  refine hK.out _ _ ⟨pw_cell_below hb hHeld.1, pw_cell_below hb hHeld.2⟩ (fun hHeld => ?_)
  clear hK K
  refine norm_ (a' := ?_) ?_ ?_
  rotate_left
  · show Act.put _ (some 41) _ = _
    simp only [Act.put, List.setIfInBounds_toArray, List.set_cons_zero, List.set_cons_succ, i64_w, i32_w]
    rfl
  clear hb HS8 BX8 RW8 RX8 RG8
  refine pure_ (i := 4) (N := some 42) (v := ?_) (a' := ?_) #[true, true, true, true, true] rfl rfl (by kernel_rfl) (fun _ _ _ h => h) (Or.inl ⟨by rfl, ?_⟩) ?_ ?_
  rotate_left
  · intro w'
    go_simp
    with_reducible rfl
  rotate_left
  · simp only [Act.put, List.setIfInBounds_toArray, List.set_cons_zero, List.set_cons_succ, i64_w, i32_w]
    rfl
  refine done_ (by kernel_rfl) ?_
  clear hHeld
  have hk7 : w9.cell? ⟨w4.heap.size, 0, none⟩ = some (.slice Ax tb.length cx) := (blk_cell RX9.out.b 0).trans rfl
  go_wp2_with (first | (go_at_call 21; refine (laws_markTable.calls k (fun k_ => w3.heap.size ≤ k_ ∧ k_ < w5.heap.size ∧ k_ ≠ w4.heap.size) (.slice Ax tb.length cx) tb 1 q1 tb' w _ BX9.out.bel RX9.out.r HQ.out).mono ?_; rintro e w10 ⟨rfl, hs, hb, hk⟩; have BX10 := Aside0.mk (BX9.out.kept hk (fun e_ => by have := HLO0.out; have := e_.1; omega) (fun e_ => by have := HLO0.out; have := e_.1; omega) hb); have RX10 := Aside0.mk (show ResS k32 32 36 w w10 w3.heap.size w5.heap.size w4.heap.size #[.slice Ax tb.length cx] (.slice Ax tb.length cx) tb' from RX9.out.mark hk hs); have RW10 := Aside0.mk (RW9.out.kept hk (fun k_ e_ => by omega)); have RG10 := Aside0.mk (RG9.out.kept hk (fun k_ e_ => by omega)); clear hs hb hk hk7 BX9 RW9 RX9 RG9; refine Hid.out ?_))
  refine Lib.hid ?_
  obtain ⟨ha0, ha1, ha2, ha3, ha4, ha5, ha6, ha7, ha8, haf0, haf1, haf2, haf3, haf4, haf5, haf6, haf7, haf8⟩ := bkA9 RG10.out.b
  obtain ⟨hd0, hd1, hd2, hd3, hd4, hd5, hd6, hd7, hd8, hdf0, hdf1, hdf2, hdf3, hdf4, hdf5, hdf6, hdf7, hdf8⟩ := bkA9 RW10.out.b
  go_wp2_with (first | (go_at_call 19; refine (laws_eqSlot.calls k sv.f0.f0 sv.f0.f1 sv.f1 sv.f2 Ag cg sv.f3 sv.f4 sv.f5 sv.f6 sv.f7 p1 p2 p3 p4 Ad cd p5 p6 p7 p8 p9 true _ RG10.out.reads.2.2 RG10.out.reads.2.1 RW10.out.reads.2.2 RW10.out.reads.2.1 HE1.out).mono ?_; rintro e w11 ⟨rfl, hb⟩; have BX11 := Aside0.mk (BX10.out.keep hb); have RW11 := Aside0.mk (RW10.out.keep hb); have RX11 := Aside0.mk (RX10.out.keep hb); have RG11 := Aside0.mk (RG10.out.keep hb); clear hb BX10 RW10 RX10 RG10; clear ha0 haf0 ha1 haf1 ha2 haf2 ha3 haf3 ha4 haf4 ha5 haf5 ha6 haf6 ha7 haf7 ha8 haf8; clear hd0 hdf0 hd1 hdf1 hd2 hdf2 hd3 hdf3 hd4 hdf4 hd5 hdf5 hd6 hdf6 hd7 hdf7 hd8 hdf8; refine Hid.out ?_))
  refine Lib.hid ?_
  obtain ⟨ha0, ha1, ha2, ha3, ha4, ha5, ha6, ha7, ha8, haf0, haf1, haf2, haf3, haf4, haf5, haf6, haf7, haf8⟩ := bkA9 RG11.out.b
  go_wp2_with (first | (go_at_call 22; refine (laws_markSlot.calls k sv.f0.f0 sv.f0.f1 sv.f1 sv.f2 (fun k_ => w5.heap.size ≤ k_ ∧ k_ < w6.heap.size ∧ k_ ≠ gg) (.slice Ag sv.f3.length cg) sv.f3 sv.f4 sv.f5 sv.f6 sv.f7 1 y m2 w _ BX11.out.bel RG11.out.r HM.out).mono ?_; rintro e w12 ⟨rfl, hr, hb, hk⟩; have BX12 := Aside0.mk (BX11.out.kept hk (fun e_ => by have := HLO0.out; have := RX11.out.ge; have := RX11.out.lt; have := e_.1; omega) (fun e_ => by have := HLO0.out; have := RX11.out.ge; have := RX11.out.lt; have := e_.1; omega) hb); have RG12 := Aside0.mk (show ResR k29 29 32 w w12 w5.heap.size w6.heap.size gg #[.int .i64 sv.f0.f0, .string sv.f0.f1, .bool sv.f1, .string sv.f2, (.slice Ag sv.f3.length cg), .int .i64 sv.f4, .int .i64 sv.f5, .int .i64 sv.f6, .int .i64 sv.f7] (.slice Ag sv.f3.length cg) m2 from RG11.out.mark rfl hk hr); have RW12 := Aside0.mk (RW11.out.kept hk (fun k_ e_ => by have := RX11.out.ge; have := RX11.out.lt; omega)); have RX12 := Aside0.mk (RX11.out.kept hk (fun k_ e_ => by omega)); clear hr hb hk BX11 RW11 RX11 RG11; clear ha0 haf0 ha1 haf1 ha2 haf2 ha3 haf3 ha4 haf4 ha5 haf5 ha6 haf6 ha7 haf7 ha8 haf8; refine Hid.out ?_))
  refine Lib.hid ?_
  obtain ⟨ha0, ha1, ha2, ha3, ha4, ha5, ha6, ha7, ha8, haf0, haf1, haf2, haf3, haf4, haf5, haf6, haf7, haf8⟩ := bkA9 RG12.out.b
  go_wp2_with (first | (go_at_call 23; refine (heldSlot_at k sv.f0.f0 sv.f0.f1 sv.f1 sv.f2 Ag sv.f3.length cg m2 sv.f4 sv.f5 sv.f6 sv.f7 1 y _ RG12.out.reads.1 RG12.out.reads.2.2 RG12.out.reads.2.1 HY.out).mono ?_; rintro e w13 ⟨rfl, hb⟩; have BX13 := Aside0.mk (BX12.out.keep hb); have RW13 := Aside0.mk (RW12.out.keep hb); have RX13 := Aside0.mk (RX12.out.keep hb); have RG13 := Aside0.mk (RG12.out.keep hb); clear hb BX12 RW12 RX12 RG12; clear ha0 haf0 ha1 haf1 ha2 haf2 ha3 haf3 ha4 haf4 ha5 haf5 ha6 haf6 ha7 haf7 ha8 haf8))
  refine start_ (n := 7) (S := fun w' => w'.cell? ⟨w.heap.size, 0, none⟩ = some (.slice A0_0 l0_0.length c0_0) ∧ w'.cell? ⟨w.heap.size + 1, 0, none⟩ = some (.int .i64 a1_0) ∧ w'.cell? ⟨w.heap.size + 1, 1, none⟩ = some (.string a1_1)) (ds := [6]) #[false, false, false, false, false, false, false] (by kernel_rfl) rfl rfl ⟨(blk_cell BX13.out.h0 0).trans rfl, (blk_cell BX13.out.h1 0).trans rfl, (blk_cell BX13.out.h1 1).trans rfl⟩ (fun hHeld => ?_)
  refine take_ (i := 0) (N := some 65) (v := ?_) (a' := ?_) #[true, false, false, false, false, false, false] rfl rfl (by kernel_rfl) (fun _ _ _ h => h) (Or.inl ⟨by rfl, ?_⟩) hHeld ?_ ?_
  rotate_left
  · rintro w' ⟨s0, s1, s2⟩
    go_simp
    with_reducible rfl
  rotate_left
  · simp only [Act.put, List.setIfInBounds_toArray, List.set_cons_zero, List.set_cons_succ, i64_w, i32_w]
    rfl
  refine take_ (i := 2) (N := some 67) (v := ?_) (a' := ?_) #[true, false, true, false, false, false, false] rfl rfl (by kernel_rfl) (fun _ _ _ h => h) (Or.inl ⟨by rfl, ?_⟩) hHeld ?_ ?_
  rotate_left
  · rintro w' ⟨s0, s1, s2⟩
    go_simp
    with_reducible rfl
  rotate_left
  · simp only [Act.put, List.setIfInBounds_toArray, List.set_cons_zero, List.set_cons_succ, i64_w, i32_w]
    rfl
  have HH0 := Aside0.mk hHeld
  refine join_ (σ := Nat × (Option Addr × Nat) × (Option Addr × Nat)) 1 #[true, true, true, true, true, true, false] (fun s => [(66, (.agg #[.slice s.2.1.1 tb.length s.2.1.2])), (68, (.agg #[.int .i64 a1_0, .string a1_1])), (69, (.agg #[.int .i64 sv.f0.f0, .string sv.f0.f1, .bool sv.f1, .string sv.f2, (.slice s.2.2.1 sv.f3.length s.2.2.2), .int .i64 sv.f4, .int .i64 sv.f5, .int .i64 sv.f6, .int .i64 sv.f7])), (12, (.pointer (some ⟨s.1, 0, none⟩)))]) (fun s w' => w'.heap[s.1]? = some (.cells #[.int .i64 0, .string ⟨#[]⟩, .bool false, .string ⟨#[]⟩, .slice none 0 0, .int .i64 0, .int .i64 0, .int .i64 0, .int .i64 0] 32 (0, 0)) ∧ w13.heap.size ≤ s.1 ∧ Below w13.drew.heap.size w13.drew w' ∧ Kd.C k32 w' s.2.1.1 tb.length tb ∧ tb.length ≤ s.2.1.2 ∧ Kd.R k29 29 w' w13.heap.size (fun _ => True) (.slice s.2.2.1 sv.f3.length s.2.2.2) sv.f3) ?_ ?_
  rotate_left
  · intro hJ3
    refine join_ (σ := Nat × (Option Addr × Nat) × (Option Addr × Nat)) 2 #[true, true, true, true, false, true, false] (fun s => [(66, (.agg #[.slice s.2.1.1 tb.length s.2.1.2])), (68, (.agg #[.int .i64 a1_0, .string a1_1])), (12, (.pointer (some ⟨s.1, 0, none⟩)))]) (fun s w' => w'.heap[s.1]? = some (.cells #[.int .i64 0, .string ⟨#[]⟩, .bool false, .string ⟨#[]⟩, .slice none 0 0, .int .i64 0, .int .i64 0, .int .i64 0, .int .i64 0] 32 (0, 0)) ∧ w13.heap.size ≤ s.1 ∧ Below w13.drew.heap.size w13.drew w' ∧ Kd.C k32 w' s.2.1.1 tb.length tb ∧ tb.length ≤ s.2.1.2) ?_ ?_
    rotate_left
    · intro hJ2
      refine join_ (σ := Nat × (Option Addr × Nat) × (Option Addr × Nat)) 3 #[true, true, true, false, false, true, false] (fun s => [(66, (.agg #[.slice s.2.1.1 tb.length s.2.1.2])), (12, (.pointer (some ⟨s.1, 0, none⟩)))]) (fun s w' => w'.heap[s.1]? = some (.cells #[.int .i64 0, .string ⟨#[]⟩, .bool false, .string ⟨#[]⟩, .slice none 0 0, .int .i64 0, .int .i64 0, .int .i64 0, .int .i64 0] 32 (0, 0)) ∧ w13.heap.size ≤ s.1 ∧ Below w13.drew.heap.size w13.drew w' ∧ Kd.C k32 w' s.2.1.1 tb.length tb ∧ tb.length ≤ s.2.1.2) ?_ ?_
      rotate_left
      · intro hJ1
        refine join_ (σ := Nat × (Option Addr × Nat) × (Option Addr × Nat)) 4 #[true, false, true, false, false, true, false] (fun s => [(12, (.pointer (some ⟨s.1, 0, none⟩)))]) (fun s w' => w'.heap[s.1]? = some (.cells #[.int .i64 0, .string ⟨#[]⟩, .bool false, .string ⟨#[]⟩, .slice none 0 0, .int .i64 0, .int .i64 0, .int .i64 0, .int .i64 0] 32 (0, 0)) ∧ w13.heap.size ≤ s.1 ∧ Below w13.drew.heap.size w13.drew w') ?_ ?_
        rotate_left
        · intro hJ0
          refine two_ (i := 1) (j := 5) (Ni := some 66) (Nj := some 12) #[true, true, true, false, false, false, false] #[true, false, true, false, false, true, false] rfl rfl rfl rfl (by kernel_rfl) (by decide) (by decide) (fun K hK => ?_) (fun K hK => ?_)
          · refine goes_ Tryd.func16 rfl rfl #[.agg #[.slice A0_0 l0_0.length c0_0]] rfl rfl rfl (by (try simp only [List.map_toArray, List.map_cons, List.map_nil, List.append_toArray, List.append_nil, List.nil_append, List.cons_append]); rfl) ?_
            refine (laws_toTable.calls k A0_0 c0_0 l0_0 tb _ (Kd.C_below HR0.out (below_drew1 BX13.out.bel)) HC0.out HTB.out).mono ?_
            rintro e u0c ⟨v_, rfl, hS_, hb_u0c⟩
            obtain ⟨At_, ct_, rfl⟩ := Kd.S_slice hS_
            have hCt_ := (Kd.S_reads' hS_).2.2
            have hct_ := (Kd.S_reads' hS_).2.1
            clear hS_
            refine ⟨_, rfl, ?_⟩
            refine hK.out _ _ ⟨pw_cell_below hb_u0c hHeld.1, pw_cell_below hb_u0c hHeld.2.1, pw_cell_below hb_u0c hHeld.2.2⟩ (fun hHeld => ?_)
            clear hK K
            refine two_ (i := 3) (j := 5) (Ni := some 68) (Nj := some 12) #[true, true, true, true, false, false, false] #[true, true, true, false, false, true, false] rfl rfl rfl rfl (by kernel_rfl) (by decide) (by decide) (fun K hK => ?_) (fun K hK => ?_)
            · refine goes_ Tryd.func17 rfl rfl #[.agg #[.int .i64 a1_0, .string a1_1]] rfl rfl rfl (by (try simp only [List.map_toArray, List.map_cons, List.map_nil, List.append_toArray, List.append_nil, List.nil_append, List.cons_append]); rfl) ?_
              refine (laws_toKey.calls a1_0 a1_1 a1_0 a1_1 _ rfl).mono ?_
              rintro e u1c ⟨rfl, hb_u1c⟩
              refine ⟨_, rfl, ?_⟩
              refine hK.out _ _ ⟨pw_cell_below hb_u1c hHeld.1, pw_cell_below hb_u1c hHeld.2.1, pw_cell_below hb_u1c hHeld.2.2⟩ (fun hHeld => ?_)
              clear hK K
              refine two_ (i := 4) (j := 5) (Ni := some 69) (Nj := some 12) #[true, true, true, true, true, false, false] #[true, true, true, true, false, true, false] rfl rfl rfl rfl (by kernel_rfl) (by decide) (by decide) (fun K hK => ?_) (fun K hK => ?_)
              · refine goes_ Tryd.func18 rfl rfl #[.agg #[.slice At_ tb.length ct_], .agg #[.int .i64 a1_0, .string a1_1]] rfl rfl rfl (by (try simp only [List.map_toArray, List.map_cons, List.map_nil, List.append_toArray, List.append_nil, List.nil_append, List.cons_append]); rfl) ?_
                refine (impl_Find.calls k At_ ct_ tb a1_0 a1_1 sv _ (HG.out.below (below_step BX13.out.bel (below_step (below_drew1 (Below.refl _ _)) (below_step hb_u0c hb_u1c)))) (Kd.C_below hCt_ hb_u1c) hct_ HSf.out).mono ?_
                rintro e u2c ⟨v_, rfl, hR_, hb_u2c⟩
                obtain ⟨Ad_, cd_, rfl⟩ := Kd.R_slice hR_
                refine ⟨_, rfl, ?_⟩
                refine hK.out _ _ ⟨pw_cell_below hb_u2c hHeld.1, pw_cell_below hb_u2c hHeld.2.1, pw_cell_below hb_u2c hHeld.2.2⟩ (fun hHeld => ?_)
                clear hK K
                refine one_ (i := 5) (N := some 12) #[true, true, true, true, true, true, false] rfl rfl (by kernel_rfl) (by decide) (fun K hK => ?_)
                refine value_ (v := .pointer (some ⟨u2c.heap.size, 0, none⟩)) (w1 := u2c.alloc (.cells #[.int .i64 0, .string ⟨#[]⟩, .bool false, .string ⟨#[]⟩, .slice none 0 0, .int .i64 0, .int .i64 0, .int .i64 0, .int .i64 0] 32)) (by rfl) rfl ?_ ?_
                · go_simp
                refine hK.out _ _ ⟨pw_cell_below (below_alloc (Below.refl _ _) _) hHeld.1, pw_cell_below (below_alloc (Below.refl _ _) _) hHeld.2.1, pw_cell_below (below_alloc (Below.refl _ _) _) hHeld.2.2⟩ (fun hHeld => ?_)
                clear hK K
                exact norm_ (by first | (simp only [putAll, Act.put, sA_, slCells]; done) | (simp only [putAll, Act.put, sA_, slCells]; rfl)) (hJ3 (u2c.heap.size, (At_, ct_), (Ad_, cd_)) _ ⟨blk_new _ _, (below_size (below_step (below_drew1 (Below.refl _ _)) (below_step (below_step hb_u0c hb_u1c) hb_u2c))), below_alloc (below_step (below_step hb_u0c hb_u1c) hb_u2c) _, Kd.C_below (Kd.C_below (Kd.C_below hCt_ hb_u1c) hb_u2c) (below_alloc (Below.refl _ _) _), hct_, Kd.R_below (Kd.R_lower hR_ (below_size (below_step (below_drew1 (Below.refl _ _)) (below_step hb_u0c hb_u1c)))) (below_alloc (Below.refl _ _) _)⟩)
              · refine value_ (v := .pointer (some ⟨u1c.heap.size, 0, none⟩)) (w1 := u1c.alloc (.cells #[.int .i64 0, .string ⟨#[]⟩, .bool false, .string ⟨#[]⟩, .slice none 0 0, .int .i64 0, .int .i64 0, .int .i64 0, .int .i64 0] 32)) (by rfl) rfl ?_ ?_
                · go_simp
                refine hK.out _ _ ⟨pw_cell_below (below_alloc (Below.refl _ _) _) hHeld.1, pw_cell_below (below_alloc (Below.refl _ _) _) hHeld.2.1, pw_cell_below (below_alloc (Below.refl _ _) _) hHeld.2.2⟩ (fun hHeld => ?_)
                clear hK K
                exact norm_ (by first | (simp only [putAll, Act.put, sA_, slCells]; done) | (simp only [putAll, Act.put, sA_, slCells]; rfl)) (hJ2 (u1c.heap.size, (At_, ct_), (none, 0)) _ ⟨blk_new _ _, (below_size (below_step (below_drew1 (Below.refl _ _)) (below_step hb_u0c hb_u1c))), below_alloc (below_step hb_u0c hb_u1c) _, Kd.C_below (Kd.C_below hCt_ hb_u1c) (below_alloc (Below.refl _ _) _), hct_⟩)
            · refine value_ (v := .pointer (some ⟨u0c.heap.size, 0, none⟩)) (w1 := u0c.alloc (.cells #[.int .i64 0, .string ⟨#[]⟩, .bool false, .string ⟨#[]⟩, .slice none 0 0, .int .i64 0, .int .i64 0, .int .i64 0, .int .i64 0] 32)) (by rfl) rfl ?_ ?_
              · go_simp
              refine hK.out _ _ ⟨pw_cell_below (below_alloc (Below.refl _ _) _) hHeld.1, pw_cell_below (below_alloc (Below.refl _ _) _) hHeld.2.1, pw_cell_below (below_alloc (Below.refl _ _) _) hHeld.2.2⟩ (fun hHeld => ?_)
              clear hK K
              exact norm_ (by first | (simp only [putAll, Act.put, sA_, slCells]; done) | (simp only [putAll, Act.put, sA_, slCells]; rfl)) (hJ1 (u0c.heap.size, (At_, ct_), (none, 0)) _ ⟨blk_new _ _, (below_size (below_step (below_drew1 (Below.refl _ _)) hb_u0c)), below_alloc hb_u0c _, Kd.C_below hCt_ (below_alloc (Below.refl _ _) _), hct_⟩)
          · refine value_ (v := .pointer (some ⟨w13.drew.heap.size, 0, none⟩)) (w1 := w13.drew.alloc (.cells #[.int .i64 0, .string ⟨#[]⟩, .bool false, .string ⟨#[]⟩, .slice none 0 0, .int .i64 0, .int .i64 0, .int .i64 0, .int .i64 0] 32)) (by rfl) rfl ?_ ?_
            · go_simp
            refine hK.out _ _ ⟨pw_cell_below (below_alloc (Below.refl _ _) _) hHeld.1, pw_cell_below (below_alloc (Below.refl _ _) _) hHeld.2.1, pw_cell_below (below_alloc (Below.refl _ _) _) hHeld.2.2⟩ (fun hHeld => ?_)
            clear hK K
            exact norm_ (by first | (simp only [putAll, Act.put, sA_, slCells]; done) | (simp only [putAll, Act.put, sA_, slCells]; rfl)) (hJ0 (w13.drew.heap.size, (none, 0), (none, 0)) _ ⟨blk_new _ _, (below_size (below_step (below_drew1 (Below.refl _ _)) (Below.refl _ _))), below_alloc (Below.refl _ _) _⟩)
        · rintro ⟨gw_, ⟨At0_, ct0_⟩, ⟨Ad0_, cd0_⟩⟩ wj_ ⟨hg_, hge_, hb_⟩
          refine norm_ (a' := ?_) ?_ ?_
          rotate_left
          · simp only [putAll, Act.put, sA_]
            rfl
          refine one_ (i := 1) (N := some 66) #[true, true, true, false, false, true, false] rfl rfl (by kernel_rfl) (by decide) (fun K hK => ?_)
          refine goes_ Tryd.func16 rfl rfl #[.agg #[.slice A0_0 l0_0.length c0_0]] rfl rfl rfl (by (try simp only [List.map_toArray, List.map_cons, List.map_nil, List.append_toArray, List.append_nil, List.nil_append, List.cons_append]); rfl) ?_
          refine (laws_toTable.calls k A0_0 c0_0 l0_0 tb _ (Kd.C_below HR0.out (below_step BX13.out.bel (below_step (below_drew1 (Below.refl _ _)) hb_))) HC0.out HTB.out).mono ?_
          rintro e u0c ⟨v_, rfl, hS_, hb_u0c⟩
          obtain ⟨At_, ct_, rfl⟩ := Kd.S_slice hS_
          have hCt_ := (Kd.S_reads' hS_).2.2
          have hct_ := (Kd.S_reads' hS_).2.1
          clear hS_
          refine ⟨_, rfl, ?_⟩
          refine hK.out _ _ ⟨pw_cell_below (below_step hb_ hb_u0c) HH0.out.1, pw_cell_below (below_step hb_ hb_u0c) HH0.out.2.1, pw_cell_below (below_step hb_ hb_u0c) HH0.out.2.2⟩ (fun hHeld => ?_)
          clear hK K
          exact norm_ (by first | (simp only [putAll, Act.put, sA_, slCells]; done) | (simp only [putAll, Act.put, sA_, slCells]; rfl)) (hJ1 (gw_, (At_, ct_), (none, 0)) _ ⟨blk_below hg_ hb_u0c, hge_, below_step hb_ hb_u0c, hCt_, hct_⟩)
      · rintro ⟨gw_, ⟨At0_, ct0_⟩, ⟨Ad0_, cd0_⟩⟩ wj_ ⟨hg_, hge_, hb_, hC_, hc_⟩
        refine norm_ (a' := ?_) ?_ ?_
        rotate_left
        · simp only [putAll, Act.put, sA_]
          rfl
        refine one_ (i := 3) (N := some 68) #[true, true, true, true, false, true, false] rfl rfl (by kernel_rfl) (by decide) (fun K hK => ?_)
        refine goes_ Tryd.func17 rfl rfl #[.agg #[.int .i64 a1_0, .string a1_1]] rfl rfl rfl (by (try simp only [List.map_toArray, List.map_cons, List.map_nil, List.append_toArray, List.append_nil, List.nil_append, List.cons_append]); rfl) ?_
        refine (laws_toKey.calls a1_0 a1_1 a1_0 a1_1 _ rfl).mono ?_
        rintro e u1c ⟨rfl, hb_u1c⟩
        refine ⟨_, rfl, ?_⟩
        refine hK.out _ _ ⟨pw_cell_below (below_step hb_ hb_u1c) HH0.out.1, pw_cell_below (below_step hb_ hb_u1c) HH0.out.2.1, pw_cell_below (below_step hb_ hb_u1c) HH0.out.2.2⟩ (fun hHeld => ?_)
        clear hK K
        exact norm_ (by first | (simp only [putAll, Act.put, sA_, slCells]; done) | (simp only [putAll, Act.put, sA_, slCells]; rfl)) (hJ2 (gw_, (At0_, ct0_), (none, 0)) _ ⟨blk_below hg_ hb_u1c, hge_, below_step hb_ hb_u1c, Kd.C_below hC_ hb_u1c, hc_⟩)
    · rintro ⟨gw_, ⟨At0_, ct0_⟩, ⟨Ad0_, cd0_⟩⟩ wj_ ⟨hg_, hge_, hb_, hC_, hc_⟩
      refine norm_ (a' := ?_) ?_ ?_
      rotate_left
      · simp only [putAll, Act.put, sA_]
        rfl
      refine one_ (i := 4) (N := some 69) #[true, true, true, true, true, true, false] rfl rfl (by kernel_rfl) (by decide) (fun K hK => ?_)
      refine goes_ Tryd.func18 rfl rfl #[.agg #[.slice At0_ tb.length ct0_], .agg #[.int .i64 a1_0, .string a1_1]] rfl rfl rfl (by (try simp only [List.map_toArray, List.map_cons, List.map_nil, List.append_toArray, List.append_nil, List.nil_append, List.cons_append]); rfl) ?_
      refine (impl_Find.calls k At0_ ct0_ tb a1_0 a1_1 sv _ (HG.out.below (below_step BX13.out.bel (below_step (below_drew1 (Below.refl _ _)) hb_))) hC_ hc_ HSf.out).mono ?_
      rintro e u2c ⟨v_, rfl, hR_, hb_u2c⟩
      obtain ⟨Ad_, cd_, rfl⟩ := Kd.R_slice hR_
      refine ⟨_, rfl, ?_⟩
      refine hK.out _ _ ⟨pw_cell_below (below_step hb_ hb_u2c) HH0.out.1, pw_cell_below (below_step hb_ hb_u2c) HH0.out.2.1, pw_cell_below (below_step hb_ hb_u2c) HH0.out.2.2⟩ (fun hHeld => ?_)
      clear hK K
      exact norm_ (by first | (simp only [putAll, Act.put, sA_, slCells]; done) | (simp only [putAll, Act.put, sA_, slCells]; rfl)) (hJ3 (gw_, (At0_, ct0_), (Ad_, cd_)) _ ⟨blk_below hg_ hb_u2c, hge_, below_step hb_ hb_u2c, Kd.C_below hC_ hb_u2c, hc_, Kd.R_lower hR_ (below_size (below_step (below_drew1 (Below.refl _ _)) hb_))⟩)
  rintro ⟨gh, ⟨_, _⟩, ⟨Ah, ch⟩⟩ wj ⟨hg, hge, hb, _, _, hR⟩
  refine norm_ (a' := ?_) ?_ ?_
  rotate_left
  · simp only [putAll, Act.put, sA_]
    rfl
  refine last_ (i := 6) (N := none) #[true, true, true, true, true, true, true] rfl rfl (by kernel_rfl) (by decide) (fun K hK => ?_)
  obtain ⟨hc0, hc1, hc2, hc3, hc4, hc5, hc6, hc7, hc8, hf0, hf1, hf2, hf3, hf4, hf5, hf6, hf7, hf8⟩ := bkA9 hg
  refine skip_ (w1 := (((((((((wj.setCell ⟨gh, 0, none⟩ (.int .i64 sv.f0.f0)).setCell ⟨gh, 1, none⟩ (.string sv.f0.f1)).setCell ⟨gh, 2, none⟩ (.bool sv.f1)).setCell ⟨gh, 3, none⟩ (.string sv.f2)).setCell ⟨gh, 4, none⟩ ((.slice Ah sv.f3.length ch))).setCell ⟨gh, 5, none⟩ (.int .i64 sv.f4)).setCell ⟨gh, 6, none⟩ (.int .i64 sv.f5)).setCell ⟨gh, 7, none⟩ (.int .i64 sv.f6)).setCell ⟨gh, 8, none⟩ (.int .i64 sv.f7))) (by rfl) rfl ?_ ?_
  · go_simp
  clear hc0 hf0 hc1 hf1 hc2 hf2 hc3 hf3 hc4 hf4 hc5 hf5 hc6 hf6 hc7 hf7 hc8 hf8
  refine hK.out _ _ ?_
  clear hK K
  refine done_ (by kernel_rfl) ?_
  obtain ⟨w14, hw14⟩ : ∃ W_ : World, W_ = (((((((((wj.setCell ⟨gh, 0, none⟩ (.int .i64 sv.f0.f0)).setCell ⟨gh, 1, none⟩ (.string sv.f0.f1)).setCell ⟨gh, 2, none⟩ (.bool sv.f1)).setCell ⟨gh, 3, none⟩ (.string sv.f2)).setCell ⟨gh, 4, none⟩ ((.slice Ah sv.f3.length ch))).setCell ⟨gh, 5, none⟩ (.int .i64 sv.f4)).setCell ⟨gh, 6, none⟩ (.int .i64 sv.f5)).setCell ⟨gh, 7, none⟩ (.int .i64 sv.f6)).setCell ⟨gh, 8, none⟩ (.int .i64 sv.f7)) := ⟨_, rfl⟩
  rw [← hw14]
  have hbj := below_step (below_drew1 (Below.refl _ _)) hb
  have BX14 := Aside0.mk ((BX13.out.keep hbj).stored9 hw14 (Nat.le_trans BX13.out.lo hge))
  have RW14 := Aside0.mk ((RW13.out.keep hbj).kept (show Kept wj w14 (fun k => k = gh) by rw [hw14]; exact kept_stores9) (fun k e_ => by have := RW13.out.sz; have := e_; omega))
  have RX14 := Aside0.mk ((RX13.out.keep hbj).kept (show Kept wj w14 (fun k => k = gh) by rw [hw14]; exact kept_stores9) (fun k e_ => by have := RX13.out.sz; have := e_; omega))
  have RG14 := Aside0.mk ((RG13.out.keep hbj).kept (show Kept wj w14 (fun k => k = gh) by rw [hw14]; exact kept_stores9) (fun k e_ => by have := RG13.out.sz; have := e_; omega))
  have RH14 := Aside0.mk (show ResR k29 29 32 w w14 w13.heap.size w14.heap.size gh #[.int .i64 sv.f0.f0, .string sv.f0.f1, .bool sv.f1, .string sv.f2, (.slice Ah sv.f3.length ch), .int .i64 sv.f4, .int .i64 sv.f5, .int .i64 sv.f6, .int .i64 sv.f7] (.slice Ah sv.f3.length ch) sv.f3 from ResR.stored9 hw14 hg hge (below_size BX13.out.bel) hR (by decide))
  have HSZ14 := Aside0.mk (show w13.heap.size ≤ w14.heap.size from Nat.le_trans hge (Nat.le_of_lt RH14.out.lt))
  clear hw14 hb hbj hR hg hge HH0 BX13 RW13 RX13 RG13
  obtain ⟨ha0, ha1, ha2, ha3, ha4, ha5, ha6, ha7, ha8, haf0, haf1, haf2, haf3, haf4, haf5, haf6, haf7, haf8⟩ := bkA9 RH14.out.b
  obtain ⟨hd0, hd1, hd2, hd3, hd4, hd5, hd6, hd7, hd8, hdf0, hdf1, hdf2, hdf3, hdf4, hdf5, hdf6, hdf7, hdf8⟩ := bkA9 RW14.out.b
  go_wp2_with (first | (go_at_call 19; refine (laws_eqSlot.calls k sv.f0.f0 sv.f0.f1 sv.f1 sv.f2 Ah ch sv.f3 sv.f4 sv.f5 sv.f6 sv.f7 p1 p2 p3 p4 Ad cd p5 p6 p7 p8 p9 true _ RH14.out.reads.2.2 RH14.out.reads.2.1 RW14.out.reads.2.2 RW14.out.reads.2.1 HE1.out).mono ?_; rintro e w15 ⟨rfl, hb⟩; have BX15 := Aside0.mk (BX14.out.keep hb); have RW15 := Aside0.mk (RW14.out.keep hb); have RX15 := Aside0.mk (RX14.out.keep hb); have RG15 := Aside0.mk (RG14.out.keep hb); clear hb BX14 RW14 RX14 RG14; clear ha0 haf0 ha1 haf1 ha2 haf2 ha3 haf3 ha4 haf4 ha5 haf5 ha6 haf6 ha7 haf7 ha8 haf8; clear hd0 hdf0 hd1 hdf1 hd2 hdf2 hd3 hdf3 hd4 hdf4 hd5 hdf5 hd6 hdf6 hd7 hdf7 hd8 hdf8; refine Hid.out ?_))
  refine Lib.hid ?_
  obtain ⟨ha0, ha1, ha2, ha3, ha4, ha5, ha6, ha7, ha8, haf0, haf1, haf2, haf3, haf4, haf5, haf6, haf7, haf8⟩ := bkA9 RG15.out.b
  go_wp2_with (first | (go_at_call 23; refine (heldSlot_at k sv.f0.f0 sv.f0.f1 sv.f1 sv.f2 Ag sv.f3.length cg m2 sv.f4 sv.f5 sv.f6 sv.f7 1 y _ RG15.out.reads.1 RG15.out.reads.2.2 RG15.out.reads.2.1 HY.out).mono ?_; rintro e w16 ⟨rfl, hb⟩; have BX16 := Aside0.mk (BX15.out.keep hb); have RW16 := Aside0.mk (RW15.out.keep hb); have RX16 := Aside0.mk (RX15.out.keep hb); have RG16 := Aside0.mk (RG15.out.keep hb); clear hb BX15 RW15 RX15 RG15; clear ha0 haf0 ha1 haf1 ha2 haf2 ha3 haf3 ha4 haf4 ha5 haf5 ha6 haf6 ha7 haf7 ha8 haf8))
  go_ret
  exact ⟨rfl, BX16.out.bel⟩
end Go.Proofs.YtnbohlcibgfjaaaDoor.Gp
end
