/- A part of the proof of RowFnExactFind: each text's theorems that it needs, packed by shake.py, a program of this work; Lean checks them. -/
import Derived.Test.YtnbohlcibgfjaaaDoorFnd3
import Derived.Test.YtnbohlcibgfjaaaDoorFnd17
import Derived.Test.YtnbohlcibgfjaaaDoorFnd13
import Derived.Test.YtnbohlcibgfjaaaDoorFnd12
import Derived.Test.YtnbohlcibgfjaaaDoorFnd14
import Derived.Test.YtnbohlcibgfjaaaDoorFnd15
section
namespace Go.Proofs.YtnbohlcibgfjaaaDoor.Gp
open Go.RowKit Go.Proofs.YtnbohlcibgfjaaaDoorW.PrintWords Go.Proofs.YtnbohlcibgfjaaaDoorW.PrintLast Go.Proofs.YtnbohlcibgfjaaaDoorW.PrintMore
set_option linter.unusedVariables false
set_option linter.unusedSimpArgs false
abbrev SlU := S32
def mX (x : Int) : Int := wrap64 (x + 1)
def mkSl (k : Nat) (s : SlU) (x : Int) : Option (Int × SlU) := (laws_markText.f k (mX x)).bind fun t1 => (laws_markText.f k (mX (mX (mX x)))).bind fun t2 => (laws_markKeyS.f k s.f3 (mX (mX (mX (mX x))))).bind fun p =>
  some (mX (mX (mX (mX p.1))), ⟨⟨x, t1⟩, (Int.tmod (mX (mX x)) 3 == 0), t2, p.2, p.1, mX p.1, mX (mX p.1), mX (mX (mX p.1))⟩)
def laws_markSlotS.l0 : Nat → List SlU → Int → Nat → Option (Int × List SlU)
  | 0, _, _, _ => none
  | k + 1, l, x, i => if i < l.length then (mkSl k (rd_T32 l (i : Int)) x).bind fun p => laws_markSlotS.l0 k (l.set i p.2) p.1 (i + 1) else some (x, l)
def laws_markSlotS.f (k : Nat) (l : List SlU) (x : Int) : Option (Int × List SlU) := if l.length < 4611686018427387904 then laws_markSlotS.l0 k l x 0 else none
set_option maxHeartbeats 64000000 in
set_option maxRecDepth 100000 in
theorem laws_markSlotS.calls (k : Nat) (P : Nat → Prop) (v : Value) (l : List SlU) (a1 r1 : Int) (l' : List SlU) (w0 w : World) (hB : Below w0.heap.size w0 w) (hS : Kd.S k32 32 w w0.heap.size P v l) (h : laws_markSlotS.f k l a1 = some (r1, l')) :
    Calls Tryd.prog 63 #[v, .int .i64 a1] w fun e w' => e = .returned (.int .i64 r1) ∧ Kd.S k32 32 w' w0.heap.size P v l' ∧ Below w0.heap.size w0 w' ∧ Kept w w' P := by
  have hu1 := Tryd.underlying32
  have hu2 := Tryd.underlying29
  have hu3 := Tryd.underlying34
  unfold laws_markSlotS.f at h
  by_cases hl : l.length < 4611686018427387904
  case neg => rw [if_neg hl] at h; cases h
  rw [if_pos hl] at h
  obtain ⟨A, cp, rfl⟩ := Kd.S_slice hS
  have HS := Aside0.mk hS
  have HB := Aside0.mk hB
  have H := Aside0.mk h
  have HL := Aside0.mk hl
  clear hS hB h hl
  go_enter Tryd.func63, Tryd.ntmps63
  go_wp2
  go_loopg [1, 5] k (fun kq v1 v5 w' => ∃ (x : Int) (i : Nat) (lx : List SlU), v1 = .int .i64 x ∧ v5 = .int .i64 i ∧ Aside0 (lx.length = l.length) ∧ Aside0 (laws_markSlotS.l0 kq lx x i = some (r1, l')) ∧ Aside0 (Kd.S k32 32 w' w0.heap.size P (.slice A l.length cp) lx) ∧ Aside0 (Below w0.heap.size w0 w') ∧ Aside0 (Kept w w' P))
  case atStart => exact ⟨a1, 0, l, rfl, rfl, ⟨rfl⟩, H, HS, HB, ⟨Kept.refl _ _⟩⟩
  case round =>
    clear H HS HB
    obtain ⟨x, i, lx, rfl, rfl, HN, HA, HS, HB, HK⟩ := hrel
    cases gk with
    | zero => exact absurd HA.out (by simp [laws_markSlotS.l0])
    | succ k1 =>
      have h := HA.out
      clear HA
      simp only [laws_markSlotS.l0] at h
      by_cases hi : i < lx.length
      case neg =>
        rw [if_neg hi] at h
        simp only [Option.some.injEq, Prod.mk.injEq] at h
        obtain ⟨rfl, rfl⟩ := h
        have ql : decide (i < l.length) = false := decide_eq_false (by rw [← HN.out]; exact hi)
        clear hi
        go_wp2
        go_ret
        exact ⟨rfl, HS.out, HB.out, HK.out⟩
      rw [if_pos hi] at h
      have hil : i < l.length := by rw [← HN.out]; exact hi
      have HW := Aside0.mk (show wrap64 ((i : Int) + 1) = ((i + 1 : Nat) : Int) by have := HL.out; unfold wrap64; omega)
      have p0 : 0 ≤ (i : Int) := by omega
      have q0 : (i : Int) < (l.length : Int) := by omega
      have ql : decide (i < l.length) = true := decide_eq_true hil
      obtain ⟨⟨x', s'⟩, hm, h⟩ := Option.bind_eq_some_iff.mp h
      have H := Aside0.mk h
      clear h
      obtain ⟨g, cap, hv, _⟩ := Kd.S_form HS.out (by omega)
      injection hv with hA hn hcp
      clear hn
      subst hA hcp
      obtain ⟨oki, c, hM, hol⟩ := Hol.start (i := (i : Int)) (wi := w) HS.out z32 p0 q0 HK.out HB.out
      obtain ⟨v4, rfl, hR⟩ := k32_openM hM
      clear hM
      obtain ⟨s, hs⟩ : ∃ s, s = rd_T32 lx (i : Int) := ⟨_, rfl⟩
      rw [← hs] at hm
      change Hol _ _ _ _ _ _ _ _ _ _ _ _ [.int .i64 (rd_T32 lx (i : Int)).f0.f0, .string (rd_T32 lx (i : Int)).f0.f1, .bool (rd_T32 lx (i : Int)).f1, .string (rd_T32 lx (i : Int)).f2, v4, .int .i64 (rd_T32 lx (i : Int)).f4, .int .i64 (rd_T32 lx (i : Int)).f5, .int .i64 (rd_T32 lx (i : Int)).f6, .int .i64 (rd_T32 lx (i : Int)).f7] at hol
      change Kd.R _ _ _ _ _ _ (rd_T32 lx (i : Int)).f3 at hR
      rw [← hs] at hol hR
      clear hs
      obtain ⟨A4, c4, rfl⟩ := Kd.R_slice hR
      unfold mkSl at hm
      obtain ⟨t1, ht1, hm⟩ := Option.bind_eq_some_iff.mp hm
      obtain ⟨t2, ht2, hm⟩ := Option.bind_eq_some_iff.mp hm
      obtain ⟨⟨y, ds⟩, hmk, hm⟩ := Option.bind_eq_some_iff.mp hm
      simp only [Option.some.injEq, Prod.mk.injEq] at hm
      obtain ⟨rfl, rfl⟩ := hm
      have HT1 := Aside0.mk ht1
      have HT2 := Aside0.mk ht2
      have HMK := Aside0.mk hmk
      have H0 := Aside0.mk hol
      have R0 := Aside0.mk hR
      clear ht1 ht2 hmk hol hR HS HB HK
      have hc0 : wr.cell? ⟨g, i * 9, none⟩ = some (.int .i64 s.f0.f0) := H0.out.cell (j := 0) rfl
      have hf0 : wr.frozen? ⟨g, i * 9, none⟩ = false := H0.out.frozen _
      go_wp2_with (go_at_call 90; obtain ⟨W1, hW⟩ : ∃ W_ : World, W_ = wr.setCell ⟨g, i * 9, none⟩ (.int .i64 x) := ⟨_, rfl⟩; rw [← hW]; have H1 := Aside0.mk (show Hol k32 32 w0 w W1 P g l.length cp lx (i : Int) oki [.int .i64 x, .string s.f0.f1, .bool s.f1, .string s.f2, .slice A4 s.f3.length c4, .int .i64 s.f4, .int .i64 s.f5, .int .i64 s.f6, .int .i64 s.f7] by rw [hW]; exact H0.out.put 0 (.int .i64 x) (by decide) rfl rfl); have R1 := Aside0.mk (show Kd.R k29 29 W1 w0.heap.size oki (.slice A4 s.f3.length c4) s.f3 by rw [hW]; exact H0.out.innerSet R0.out _ _); clear hW H0 R0; clear hc0 hf0; refine (laws_markText.calls k1 (wrap64 (x + 1)) t1 _ HT1.out).mono ?_; rintro e W2 ⟨rfl, hb⟩; have H2 := Aside0.mk (H1.out.below hb); have R2 := Aside0.mk (Kd.R_below R1.out hb); clear hb H1 R1; have hc1 : W2.cell? ⟨g, i * 9 + 1, none⟩ = some (.string s.f0.f1) := H2.out.cell (j := 1) rfl; have hc2 : W2.cell? ⟨g, i * 9 + 2, none⟩ = some (.bool s.f1) := H2.out.cell (j := 2) rfl; have hf1 : W2.frozen? ⟨g, i * 9 + 1, none⟩ = false := H2.out.frozen _; have hf2 : W2.frozen? ⟨g, i * 9 + 2, none⟩ = false := H2.out.frozen _; refine Hid.out ?_)
      refine Lib.hid ?_
      go_wp2_with (go_at_call 90; obtain ⟨W3, hW⟩ : ∃ W_ : World, W_ = W2.setCell ⟨g, i * 9 + 1, none⟩ (.string t1) := ⟨_, rfl⟩; rw [← hW]; have H3 := Aside0.mk (show Hol k32 32 w0 w W3 P g l.length cp lx (i : Int) oki [.int .i64 x, .string t1, .bool s.f1, .string s.f2, .slice A4 s.f3.length c4, .int .i64 s.f4, .int .i64 s.f5, .int .i64 s.f6, .int .i64 s.f7] by rw [hW]; exact H2.out.put 1 (.string t1) (by decide) rfl rfl); have R3 := Aside0.mk (show Kd.R k29 29 W3 w0.heap.size oki (.slice A4 s.f3.length c4) s.f3 by rw [hW]; exact H2.out.innerSet R2.out _ _); clear hW H2 R2; obtain ⟨W4, hW⟩ : ∃ W_ : World, W_ = W3.setCell ⟨g, i * 9 + 2, none⟩ (.bool (Int.tmod (wrap64 (wrap64 (x + 1) + 1)) 3 == 0)) := ⟨_, rfl⟩; rw [← hW]; have H4 := Aside0.mk (show Hol k32 32 w0 w W4 P g l.length cp lx (i : Int) oki [.int .i64 x, .string t1, .bool (Int.tmod (wrap64 (wrap64 (x + 1) + 1)) 3 == 0), .string s.f2, .slice A4 s.f3.length c4, .int .i64 s.f4, .int .i64 s.f5, .int .i64 s.f6, .int .i64 s.f7] by rw [hW]; exact H3.out.put 2 (.bool (Int.tmod (wrap64 (wrap64 (x + 1) + 1)) 3 == 0)) (by decide) rfl rfl); have R4 := Aside0.mk (show Kd.R k29 29 W4 w0.heap.size oki (.slice A4 s.f3.length c4) s.f3 by rw [hW]; exact H3.out.innerSet R3.out _ _); clear hW H3 R3; clear hc1 hf1 hc2 hf2; refine (laws_markText.calls k1 (wrap64 (wrap64 (wrap64 (x + 1) + 1) + 1)) t2 _ HT2.out).mono ?_; rintro e W5 ⟨rfl, hb⟩; have H5 := Aside0.mk (H4.out.below hb); have R5 := Aside0.mk (Kd.R_below R4.out hb); clear hb H4 R4; have hc3 : W5.cell? ⟨g, i * 9 + 3, none⟩ = some (.string s.f2) := H5.out.cell (j := 3) rfl; have hc4 : W5.cell? ⟨g, i * 9 + 4, none⟩ = some (.slice A4 s.f3.length c4) := H5.out.cell (j := 4) rfl; have hf3 : W5.frozen? ⟨g, i * 9 + 3, none⟩ = false := H5.out.frozen _; have hf4 : W5.frozen? ⟨g, i * 9 + 4, none⟩ = false := H5.out.frozen _; refine Hid.out ?_)
      refine Lib.hid ?_
      go_wp2_with (go_at_call 39; obtain ⟨W6, hW⟩ : ∃ W_ : World, W_ = W5.setCell ⟨g, i * 9 + 3, none⟩ (.string t2) := ⟨_, rfl⟩; rw [← hW]; have H6 := Aside0.mk (show Hol k32 32 w0 w W6 P g l.length cp lx (i : Int) oki [.int .i64 x, .string t1, .bool (Int.tmod (wrap64 (wrap64 (x + 1) + 1)) 3 == 0), .string t2, .slice A4 s.f3.length c4, .int .i64 s.f4, .int .i64 s.f5, .int .i64 s.f6, .int .i64 s.f7] by rw [hW]; exact H5.out.put 3 (.string t2) (by decide) rfl rfl); have R6 := Aside0.mk (show Kd.R k29 29 W6 w0.heap.size oki (.slice A4 s.f3.length c4) s.f3 by rw [hW]; exact H5.out.innerSet R5.out _ _); clear hW H5 R5; clear hc3 hf3 hc4 hf4; refine (laws_markKeyS.calls k1 (fun k_ => some k_ = (Value.slice A4 s.f3.length c4).ownBlock ∧ oki k_) (.slice A4 s.f3.length c4) s.f3 (wrap64 (wrap64 (wrap64 (wrap64 (x + 1) + 1) + 1) + 1)) y ds w0 _ H6.out.bel (Kd.R_tight2 rfl R6.out) HMK.out).mono ?_; rintro e W7 ⟨rfl, hr, hb, hk⟩; have H7 := Aside0.mk (H6.out.inner hk (fun _ h => h.2) hb); have R7 := Aside0.mk (Kd.R_reok rfl hr (fun k_ e_ => R6.out.1 k_ e_)); clear hr hb hk H6 R6; have hc5 : W7.cell? ⟨g, i * 9 + 5, none⟩ = some (.int .i64 s.f4) := H7.out.cell (j := 5) rfl; have hc6 : W7.cell? ⟨g, i * 9 + 6, none⟩ = some (.int .i64 s.f5) := H7.out.cell (j := 6) rfl; have hc7 : W7.cell? ⟨g, i * 9 + 7, none⟩ = some (.int .i64 s.f6) := H7.out.cell (j := 7) rfl; have hc8 : W7.cell? ⟨g, i * 9 + 8, none⟩ = some (.int .i64 s.f7) := H7.out.cell (j := 8) rfl; have hf5 : W7.frozen? ⟨g, i * 9 + 5, none⟩ = false := H7.out.frozen _; have hf6 : W7.frozen? ⟨g, i * 9 + 6, none⟩ = false := H7.out.frozen _; have hf7 : W7.frozen? ⟨g, i * 9 + 7, none⟩ = false := H7.out.frozen _; have hf8 : W7.frozen? ⟨g, i * 9 + 8, none⟩ = false := H7.out.frozen _; refine Hid.out ?_)
      refine Lib.hid ?_
      go_wp2
      rw [HW.out]
      obtain ⟨W8, hW⟩ : ∃ W_ : World, W_ = W7.setCell ⟨g, i * 9 + 5, none⟩ (.int .i64 (y)) := ⟨_, rfl⟩
      rw [← hW]
      have H8 := Aside0.mk (show Hol k32 32 w0 w W8 P g l.length cp lx (i : Int) oki [.int .i64 x, .string t1, .bool (Int.tmod (wrap64 (wrap64 (x + 1) + 1)) 3 == 0), .string t2, .slice A4 s.f3.length c4, .int .i64 (y), .int .i64 s.f5, .int .i64 s.f6, .int .i64 s.f7] by rw [hW]; exact H7.out.put 5 (.int .i64 (y)) (by decide) rfl rfl)
      have R8 := Aside0.mk (show Kd.R k29 29 W8 w0.heap.size oki (.slice A4 s.f3.length c4) ds by rw [hW]; exact H7.out.innerSet R7.out _ _)
      clear hW H7 R7
      obtain ⟨W9, hW⟩ : ∃ W_ : World, W_ = W8.setCell ⟨g, i * 9 + 6, none⟩ (.int .i64 (wrap64 (y + 1))) := ⟨_, rfl⟩
      rw [← hW]
      have H9 := Aside0.mk (show Hol k32 32 w0 w W9 P g l.length cp lx (i : Int) oki [.int .i64 x, .string t1, .bool (Int.tmod (wrap64 (wrap64 (x + 1) + 1)) 3 == 0), .string t2, .slice A4 s.f3.length c4, .int .i64 (y), .int .i64 (wrap64 (y + 1)), .int .i64 s.f6, .int .i64 s.f7] by rw [hW]; exact H8.out.put 6 (.int .i64 (wrap64 (y + 1))) (by decide) rfl rfl)
      have R9 := Aside0.mk (show Kd.R k29 29 W9 w0.heap.size oki (.slice A4 s.f3.length c4) ds by rw [hW]; exact H8.out.innerSet R8.out _ _)
      clear hW H8 R8
      obtain ⟨W10, hW⟩ : ∃ W_ : World, W_ = W9.setCell ⟨g, i * 9 + 7, none⟩ (.int .i64 (wrap64 (wrap64 (y + 1) + 1))) := ⟨_, rfl⟩
      rw [← hW]
      have H10 := Aside0.mk (show Hol k32 32 w0 w W10 P g l.length cp lx (i : Int) oki [.int .i64 x, .string t1, .bool (Int.tmod (wrap64 (wrap64 (x + 1) + 1)) 3 == 0), .string t2, .slice A4 s.f3.length c4, .int .i64 (y), .int .i64 (wrap64 (y + 1)), .int .i64 (wrap64 (wrap64 (y + 1) + 1)), .int .i64 s.f7] by rw [hW]; exact H9.out.put 7 (.int .i64 (wrap64 (wrap64 (y + 1) + 1))) (by decide) rfl rfl)
      have R10 := Aside0.mk (show Kd.R k29 29 W10 w0.heap.size oki (.slice A4 s.f3.length c4) ds by rw [hW]; exact H9.out.innerSet R9.out _ _)
      clear hW H9 R9
      obtain ⟨W11, hW⟩ : ∃ W_ : World, W_ = W10.setCell ⟨g, i * 9 + 8, none⟩ (.int .i64 (wrap64 (wrap64 (wrap64 (y + 1) + 1) + 1))) := ⟨_, rfl⟩
      rw [← hW]
      have H11 := Aside0.mk (show Hol k32 32 w0 w W11 P g l.length cp lx (i : Int) oki [.int .i64 x, .string t1, .bool (Int.tmod (wrap64 (wrap64 (x + 1) + 1)) 3 == 0), .string t2, .slice A4 s.f3.length c4, .int .i64 (y), .int .i64 (wrap64 (y + 1)), .int .i64 (wrap64 (wrap64 (y + 1) + 1)), .int .i64 (wrap64 (wrap64 (wrap64 (y + 1) + 1) + 1))] by rw [hW]; exact H10.out.put 8 (.int .i64 (wrap64 (wrap64 (wrap64 (y + 1) + 1) + 1))) (by decide) rfl rfl)
      have R11 := Aside0.mk (show Kd.R k29 29 W11 w0.heap.size oki (.slice A4 s.f3.length c4) ds by rw [hW]; exact H10.out.innerSet R10.out _ _)
      clear hW H10 R10
      clear hc5 hf5 hc6 hf6 hc7 hf7 hc8 hf8
      have HS' := Aside0.mk (H11.out.back (k32_mkM W11 w0.heap.size oki (⟨⟨x, t1⟩, (Int.tmod (mX (mX x)) 3 == 0), t2, ds, y, mX y, mX (mX y), mX (mX (mX y))⟩ : SlU) R11.out) (fun _ h => h))
      have HB' := Aside0.mk H11.out.bel
      have HK' := Aside0.mk H11.out.kept
      clear H11 R11
      go_roundg k1
      case measure => omega
      case rel => exact ⟨mX (mX (mX (mX y))), i + 1, _, rfl, rfl, ⟨by rw [List.length_set]; exact HN.out⟩, H, HS', HB', HK'⟩
end Go.Proofs.YtnbohlcibgfjaaaDoor.Gp
end
section
namespace Go.Proofs.YtnbohlcibgfjaaaDoor.Gp
open Go.RowKit Go.Proofs.YtnbohlcibgfjaaaDoorW.PrintWords Go.Proofs.YtnbohlcibgfjaaaDoorW.PrintLast Go.Proofs.YtnbohlcibgfjaaaDoorW.PrintMore
set_option linter.unusedVariables false
set_option linter.unusedSimpArgs false
structure FdBx (w0 W : World) (A0 : Option Addr) (n0 c0 : Nat) (b0 : Int) (b1 : ByteArray) : Prop where
  h0 : W.heap[w0.heap.size]? = some (.cells #[.slice A0 n0 c0] 36 (0, 0))
  h1 : W.heap[w0.heap.size + 1]? = some (.cells #[.int .i64 b0, .string b1] 29 (0, 0))
  h2 : W.heap[w0.heap.size + 1 + 1]? = some (.cells #[.int .i64 0, .string ⟨#[]⟩, .bool false, .string ⟨#[]⟩, .slice none 0 0, .int .i64 0, .int .i64 0, .int .i64 0, .int .i64 0] 32 (0, 0))
  bel : Below w0.heap.size w0 W
theorem FdBx.keep {w0 W W1 : World} {A0 : Option Addr} {n0 c0 : Nat} {b0 : Int} {b1 : ByteArray} (h : FdBx w0 W A0 n0 c0 b0 b1) (b : Below W.heap.size W W1) : FdBx w0 W1 A0 n0 c0 b0 b1 :=
  ⟨blk_below h.h0 b, blk_below h.h1 b, blk_below h.h2 b, below_step h.bel b⟩
theorem FdBx.init (w : World) (A0 : Option Addr) (n0 c0 : Nat) (b0 : Int) (b1 : ByteArray) : FdBx w (((w.alloc (.cells #[.slice A0 n0 c0] 36)).alloc (.cells #[.int .i64 b0, .string b1] 29)).alloc (.cells #[.int .i64 0, .string ⟨#[]⟩, .bool false, .string ⟨#[]⟩, .slice none 0 0, .int .i64 0, .int .i64 0, .int .i64 0, .int .i64 0] 32)) A0 n0 c0 b0 b1 :=
  ⟨blk_alloc (blk_alloc (blk_new w _) _) _, blk_alloc (blk_new_at (by simp)) _, blk_new_at (by simp), by repeat (first | exact Below.refl _ _ | apply below_alloc)⟩
def noSl : SlU := ⟨⟨0, ⟨#[]⟩⟩, false, ⟨#[]⟩, [], 0, 0, 0, 0⟩
def slotT (p : Int × ByteArray × Bool × ByteArray × (List S29) × Int × Int × Int × Int) : SlU := ⟨⟨p.1, p.2.1⟩, p.2.2.1, p.2.2.2.1, p.2.2.2.2.1, p.2.2.2.2.2.1, p.2.2.2.2.2.2.1, p.2.2.2.2.2.2.2.1, p.2.2.2.2.2.2.2.2⟩
def rowSlot (L : List RwT) (i : Int) : Option SlU := (impl_row_slot.f ((rd_T101 L i).f0.f0.f0) ((rd_T101 L i).f0.f0.f1) ((rd_T101 L i).f0.f1) ((rd_T101 L i).f1) ((rd_T101 L i).f2) ((rd_T101 L i).f3) ((rd_T101 L i).f4) ((rd_T101 L i).f5) ((rd_T101 L i).f6)).bind fun p => some (slotT p)
def findO (L : List RwT) : Option Int → Option SlU
  | none => some noSl
  | some i => rowSlot L i
def impl_Find.f (k : Nat) (l0 : List SlU) (b0 : Int) (b1 : ByteArray) : Option SlU := (impl_ValidTable.f k l0).bind fun t => if t = true then (impl_Table_rows.f l0).bind fun L => (impl_ordered_impl_Key_impl_row_find.f k L b0 b1).bind fun o => findO L o else some noSl
def slCells (v : Value) (r : SlU) : Array Value := #[.int .i64 r.f0.f0, .string r.f0.f1, .bool r.f1, .string r.f2, v, .int .i64 r.f4, .int .i64 r.f5, .int .i64 r.f6, .int .i64 r.f7]
set_option maxHeartbeats 64000000 in
set_option maxRecDepth 100000 in
theorem impl_Find.calls (k : Nat) (A0_0 : Option Addr) (c0_0 : Nat) (l0_0 : List SlU) (a1_0 : Int) (a1_1 : ByteArray) (r : SlU) (w : World) (hG : GRes w) (hr0_0 : Kd.C k32 w A0_0 l0_0.length l0_0) (hc0_0 : l0_0.length ≤ c0_0) (h : impl_Find.f k l0_0 a1_0 a1_1 = some r) :
    Calls Tryd.prog 18 #[.agg #[.slice A0_0 l0_0.length c0_0], .agg #[.int .i64 a1_0, .string a1_1]] w fun e w' => ∃ v : Value, e = .returned (.agg (slCells v r)) ∧ Kd.R k29 29 w' w.heap.size (fun _ => True) v r.f3 ∧ Below w.heap.size w w' := by
  have hu1 := Tryd.underlying36
  have hu2 := Tryd.underlying29
  have hu3 := Tryd.underlying32
  have hu4 := Tryd.underlying101
  have hu5 := Tryd.underlying95
  have hu6 := Tryd.underlying97
  unfold impl_Find.f at h
  obtain ⟨t, ht, h⟩ := Option.bind_eq_some_iff.mp h
  have HG := Aside0.mk hG
  have HR0 := Aside0.mk hr0_0
  have HC0 := Aside0.mk hc0_0
  have H := Aside0.mk h
  have H1 := Aside0.mk ht
  have BX0 := Aside0.mk (FdBx.init w A0_0 l0_0.length c0_0 a1_0 a1_1)
  clear hG hr0_0 hc0_0 h ht
  cases t with
  | false =>
    have h := H.out
    rw [if_neg (by decide)] at h
    obtain rfl := Option.some.inj h
    clear h H
    go_enter Tryd.func18, Tryd.ntmps18
    go_wp2_with (first | (go_at_call 44; refine (impl_ValidTable.calls k A0_0 c0_0 l0_0 _ _ (GRes.below HG.out BX0.out.bel) (Kd.C_below HR0.out BX0.out.bel) HC0.out H1.out).mono ?_; rintro e w6 ⟨rfl, hb6⟩; have BX6 := Aside0.mk (BX0.out.keep hb6); obtain ⟨hc0, hc1, hc2, hc3, hc4, hc5, hc6, hc7, hc8, hf0, hf1, hf2, hf3, hf4, hf5, hf6, hf7, hf8⟩ := bkA9 BX6.out.h2; have ht6 : w6.cell? ⟨w.heap.size, 0, none⟩ = some (.slice A0_0 l0_0.length c0_0) := (blk_cell BX6.out.h0 0).trans rfl; clear hb6))
    refine bodyPost_ret (results_cell_row rfl _ _ (w.heap.size + 1 + 1) 32 #[.int .i64 0, .string ⟨#[]⟩, .bool false, .string ⟨#[]⟩, .slice none 0 0, .int .i64 0, .int .i64 0, .int .i64 0, .int .i64 0] (0, 0) _ rfl (blk_put (cs := #[.int .i64 0, .string ⟨#[]⟩, .bool false, .string ⟨#[]⟩, .slice none 0 0, .int .i64 0, .int .i64 0, .int .i64 0, .int .i64 0]) (blk_put (cs := #[.int .i64 0, .string ⟨#[]⟩, .bool false, .string ⟨#[]⟩, .slice none 0 0, .int .i64 0, .int .i64 0, .int .i64 0, .int .i64 0]) (blk_put (cs := #[.int .i64 0, .string ⟨#[]⟩, .bool false, .string ⟨#[]⟩, .slice none 0 0, .int .i64 0, .int .i64 0, .int .i64 0, .int .i64 0]) (blk_put (cs := #[.int .i64 0, .string ⟨#[]⟩, .bool false, .string ⟨#[]⟩, .slice none 0 0, .int .i64 0, .int .i64 0, .int .i64 0, .int .i64 0]) (blk_put (cs := #[.int .i64 0, .string ⟨#[]⟩, .bool false, .string ⟨#[]⟩, .slice none 0 0, .int .i64 0, .int .i64 0, .int .i64 0, .int .i64 0]) (blk_put (cs := #[.int .i64 0, .string ⟨#[]⟩, .bool false, .string ⟨#[]⟩, .slice none 0 0, .int .i64 0, .int .i64 0, .int .i64 0, .int .i64 0]) (blk_put (cs := #[.int .i64 0, .string ⟨#[]⟩, .bool false, .string ⟨#[]⟩, .slice none 0 0, .int .i64 0, .int .i64 0, .int .i64 0, .int .i64 0]) (blk_put (cs := #[.int .i64 0, .string ⟨#[]⟩, .bool false, .string ⟨#[]⟩, .slice none 0 0, .int .i64 0, .int .i64 0, .int .i64 0, .int .i64 0]) (blk_put (cs := #[.int .i64 0, .string ⟨#[]⟩, .bool false, .string ⟨#[]⟩, .slice none 0 0, .int .i64 0, .int .i64 0, .int .i64 0, .int .i64 0]) BX6.out.h2 0 _ rfl) 1 _ rfl) 2 _ rfl) 3 _ rfl) 4 _ rfl) 5 _ rfl) 6 _ rfl) 7 _ rfl) 8 _ rfl) Tryd.underlying32 rfl (by kernel_rfl)) rfl ?_
    exact ⟨.slice none 0 0, rfl, Kd.R_nil _ _ _ _ _, (below_set (below_set (below_set (below_set (below_set (below_set (below_set (below_set (below_set BX6.out.bel (by show w.heap.size ≤ w.heap.size + 1 + 1; omega)) (by show w.heap.size ≤ w.heap.size + 1 + 1; omega)) (by show w.heap.size ≤ w.heap.size + 1 + 1; omega)) (by show w.heap.size ≤ w.heap.size + 1 + 1; omega)) (by show w.heap.size ≤ w.heap.size + 1 + 1; omega)) (by show w.heap.size ≤ w.heap.size + 1 + 1; omega)) (by show w.heap.size ≤ w.heap.size + 1 + 1; omega)) (by show w.heap.size ≤ w.heap.size + 1 + 1; omega)) (by show w.heap.size ≤ w.heap.size + 1 + 1; omega))⟩
  | true =>
    have h := H.out
    rw [if_pos rfl] at h
    obtain ⟨L, hL, h⟩ := Option.bind_eq_some_iff.mp h
    obtain ⟨o, ho, h⟩ := Option.bind_eq_some_iff.mp h
    have HL := Aside0.mk hL
    have HO := Aside0.mk ho
    have HF := Aside0.mk h
    clear hL ho h H
    go_enter Tryd.func18, Tryd.ntmps18
    go_wp2_with (first | (go_at_call 44; refine (impl_ValidTable.calls k A0_0 c0_0 l0_0 _ _ (GRes.below HG.out BX0.out.bel) (Kd.C_below HR0.out BX0.out.bel) HC0.out H1.out).mono ?_; rintro e w6 ⟨rfl, hb6⟩; have BX6 := Aside0.mk (BX0.out.keep hb6); obtain ⟨hc0, hc1, hc2, hc3, hc4, hc5, hc6, hc7, hc8, hf0, hf1, hf2, hf3, hf4, hf5, hf6, hf7, hf8⟩ := bkA9 BX6.out.h2; have ht6 : w6.cell? ⟨w.heap.size, 0, none⟩ = some (.slice A0_0 l0_0.length c0_0) := (blk_cell BX6.out.h0 0).trans rfl; clear hb6))
    clear hc0 hf0 hc1 hf1 hc2 hf2 hc3 hf3 hc4 hf4 hc5 hf5 hc6 hf6 hc7 hf7 hc8 hf8
    clear ht6
    refine start_ (n := 7) (S := fun w' => w'.cell? ⟨w.heap.size, 0, none⟩ = some (.slice A0_0 l0_0.length c0_0) ∧ w'.cell? ⟨w.heap.size + 1, 0, none⟩ = some (.int .i64 a1_0) ∧ w'.cell? ⟨w.heap.size + 1, 1, none⟩ = some (.string a1_1)) (ds := []) #[false, false, false, false, false, false, false] (by kernel_rfl) rfl rfl ⟨(blk_cell BX6.out.h0 0).trans rfl, (blk_cell BX6.out.h1 0).trans rfl, (blk_cell BX6.out.h1 1).trans rfl⟩ (fun hHeld => ?_)
    refine take_ (i := 0) (N := some 10) (v := ?_) (a' := ?_) #[true, false, false, false, false, false, false] rfl rfl (by kernel_rfl) (fun _ _ _ h => h) (Or.inl ⟨by rfl, ?_⟩) hHeld ?_ ?_
    rotate_left
    · rintro w' ⟨s0, s1, s2⟩
      go_simp
      with_reducible rfl
    rotate_left
    · simp only [Act.put, List.setIfInBounds_toArray, List.set_cons_zero, List.set_cons_succ, i64_w, i32_w]
      rfl
    refine take_ (i := 4) (N := some 14) (v := ?_) (a' := ?_) #[true, false, false, false, true, false, false] rfl rfl (by kernel_rfl) (fun _ _ _ h => h) (Or.inl ⟨by rfl, ?_⟩) hHeld ?_ ?_
    rotate_left
    · rintro w' ⟨s0, s1, s2⟩
      go_simp
      with_reducible rfl
    rotate_left
    · simp only [Act.put, List.setIfInBounds_toArray, List.set_cons_zero, List.set_cons_succ, i64_w, i32_w]
      rfl
    refine one_ (i := 1) (N := some 11) #[true, true, false, false, true, false, false] rfl rfl (by kernel_rfl) (by decide) (fun K hK => ?_)
    refine goes_ Tryd.func58 rfl rfl #[.agg #[.slice A0_0 l0_0.length c0_0]] rfl rfl rfl (by (try simp only [List.map_toArray, List.map_cons, List.map_nil, List.append_toArray, List.append_nil, List.nil_append, List.cons_append]); rfl) ?_
    refine (impl_Table_rows.rows A0_0 c0_0 l0_0 L _ (Kd.C_drew (Kd.C_below HR0.out BX6.out.bel)) HL.out).mono ?_
    rintro e w7 ⟨g, rfl, hR⟩
    have hb7 := hR.bel
    refine ⟨_, rfl, ?_⟩
    refine hK.out _ _ ⟨pw_cell_below hb7 hHeld.1, pw_cell_below hb7 hHeld.2.1, pw_cell_below hb7 hHeld.2.2⟩ (fun hHeld => ?_)
    clear hK K
    refine norm_ (a' := ?_) ?_ ?_
    rotate_left
    · show Act.put _ (some 11) _ = _
      simp only [Act.put, List.setIfInBounds_toArray, List.set_cons_zero, List.set_cons_succ, i64_w, i32_w]
      rfl
    have BX7 := Aside0.mk ((BX6.out.keep (below_drew1 (Below.refl _ _))).keep hb7)
    obtain ⟨AR, cR, hO⟩ := hR.ord
    have HOr := Aside0.mk hO
    clear hb7 hO hR
    refine pure_ (i := 2) (N := some 12) (v := ?_) (a' := ?_) #[true, true, true, false, true, false, false] rfl rfl (by kernel_rfl) (fun _ _ _ h => h) (Or.inl ⟨by rfl, ?_⟩) ?_ ?_
    rotate_left
    · intro w'
      go_simp
      with_reducible rfl
    rotate_left
    · simp only [Act.put, List.setIfInBounds_toArray, List.set_cons_zero, List.set_cons_succ, i64_w, i32_w]
      rfl
    refine pure_ (i := 3) (N := some 13) (v := ?_) (a' := ?_) #[true, true, true, true, true, false, false] rfl rfl (by kernel_rfl) (fun _ _ _ h => h) (Or.inl ⟨by rfl, ?_⟩) ?_ ?_
    rotate_left
    · intro w'
      go_simp
      with_reducible rfl
    rotate_left
    · simp only [Act.put, List.setIfInBounds_toArray, List.set_cons_zero, List.set_cons_succ, i64_w, i32_w]
      rfl
    refine one_ (i := 5) (N := some 15) #[true, true, true, true, true, true, false] rfl rfl (by kernel_rfl) (by decide) (fun K hK => ?_)
    refine goes_ Tryd.func59 rfl rfl #[.pointer (some ⟨g, 0, none⟩), .agg #[.int .i64 a1_0, .string a1_1]] rfl rfl rfl (by (try simp only [List.map_toArray, List.map_cons, List.map_nil, List.append_toArray, List.append_nil, List.nil_append, List.cons_append]); rfl) ?_
    refine (impl_ordered_impl_Key_impl_row_find.find k AR cR L a1_0 a1_1 g o _ HOr.out HO.out).mono ?_
    rintro e w8 ⟨rfl, hb8, hrg⟩
    refine ⟨_, rfl, ?_⟩
    refine hK.out _ _ ⟨pw_cell_below hb8 hHeld.1, pw_cell_below hb8 hHeld.2.1, pw_cell_below hb8 hHeld.2.2⟩ (fun hHeld => ?_)
    clear hK K
    refine norm_ (a' := ?_) ?_ ?_
    rotate_left
    · show Act.put _ (some 15) _ = _
      simp only [Act.put, List.setIfInBounds_toArray, List.set_cons_zero, List.set_cons_succ, i64_w, i32_w]
      rfl
    have BX8 := Aside0.mk (BX7.out.keep hb8)
    have HOr8 := Aside0.mk (HOr.out.keep hb8)
    have HRG := Aside0.mk hrg
    clear hb8 hrg
    refine pure_ (i := 6) (N := some 5) (v := ?_) (a' := ?_) #[true, true, true, true, true, true, true] rfl rfl (by kernel_rfl) (fun _ _ _ h => h) (Or.inl ⟨by rfl, ?_⟩) ?_ ?_
    rotate_left
    · intro w'
      go_simp
      with_reducible rfl
    rotate_left
    · simp only [Act.put, List.setIfInBounds_toArray, List.set_cons_zero, List.set_cons_succ, i64_w, i32_w]
      rfl
    refine done_ (by kernel_rfl) ?_
    clear hHeld
    cases o with
    | none =>
      have h := HF.out
      obtain rfl := Option.some.inj (show some noSl = some r from h)
      clear h HF
      obtain ⟨hc0, hc1, hc2, hc3, hc4, hc5, hc6, hc7, hc8, hf0, hf1, hf2, hf3, hf4, hf5, hf6, hf7, hf8⟩ := bkA9 BX8.out.h2
      have hp : ptrRow AR none = .pointer none := by cases AR <;> rfl
      rw [hp]
      clear hp
      go_wp2
      refine bodyPost_ret (results_cell_row rfl _ _ (w.heap.size + 1 + 1) 32 #[.int .i64 0, .string ⟨#[]⟩, .bool false, .string ⟨#[]⟩, .slice none 0 0, .int .i64 0, .int .i64 0, .int .i64 0, .int .i64 0] (0, 0) _ rfl (blk_put (cs := #[.int .i64 0, .string ⟨#[]⟩, .bool false, .string ⟨#[]⟩, .slice none 0 0, .int .i64 0, .int .i64 0, .int .i64 0, .int .i64 0]) (blk_put (cs := #[.int .i64 0, .string ⟨#[]⟩, .bool false, .string ⟨#[]⟩, .slice none 0 0, .int .i64 0, .int .i64 0, .int .i64 0, .int .i64 0]) (blk_put (cs := #[.int .i64 0, .string ⟨#[]⟩, .bool false, .string ⟨#[]⟩, .slice none 0 0, .int .i64 0, .int .i64 0, .int .i64 0, .int .i64 0]) (blk_put (cs := #[.int .i64 0, .string ⟨#[]⟩, .bool false, .string ⟨#[]⟩, .slice none 0 0, .int .i64 0, .int .i64 0, .int .i64 0, .int .i64 0]) (blk_put (cs := #[.int .i64 0, .string ⟨#[]⟩, .bool false, .string ⟨#[]⟩, .slice none 0 0, .int .i64 0, .int .i64 0, .int .i64 0, .int .i64 0]) (blk_put (cs := #[.int .i64 0, .string ⟨#[]⟩, .bool false, .string ⟨#[]⟩, .slice none 0 0, .int .i64 0, .int .i64 0, .int .i64 0, .int .i64 0]) (blk_put (cs := #[.int .i64 0, .string ⟨#[]⟩, .bool false, .string ⟨#[]⟩, .slice none 0 0, .int .i64 0, .int .i64 0, .int .i64 0, .int .i64 0]) (blk_put (cs := #[.int .i64 0, .string ⟨#[]⟩, .bool false, .string ⟨#[]⟩, .slice none 0 0, .int .i64 0, .int .i64 0, .int .i64 0, .int .i64 0]) (blk_put (cs := #[.int .i64 0, .string ⟨#[]⟩, .bool false, .string ⟨#[]⟩, .slice none 0 0, .int .i64 0, .int .i64 0, .int .i64 0, .int .i64 0]) BX8.out.h2 0 _ rfl) 1 _ rfl) 2 _ rfl) 3 _ rfl) 4 _ rfl) 5 _ rfl) 6 _ rfl) 7 _ rfl) 8 _ rfl) Tryd.underlying32 rfl (by kernel_rfl)) rfl ?_
      exact ⟨.slice none 0 0, rfl, Kd.R_nil _ _ _ _ _, (below_set (below_set (below_set (below_set (below_set (below_set (below_set (below_set (below_set BX8.out.bel (by show w.heap.size ≤ w.heap.size + 1 + 1; omega)) (by show w.heap.size ≤ w.heap.size + 1 + 1; omega)) (by show w.heap.size ≤ w.heap.size + 1 + 1; omega)) (by show w.heap.size ≤ w.heap.size + 1 + 1; omega)) (by show w.heap.size ≤ w.heap.size + 1 + 1; omega)) (by show w.heap.size ≤ w.heap.size + 1 + 1; omega)) (by show w.heap.size ≤ w.heap.size + 1 + 1; omega)) (by show w.heap.size ≤ w.heap.size + 1 + 1; omega)) (by show w.heap.size ≤ w.heap.size + 1 + 1; omega))⟩
    | some i =>
      obtain ⟨g0, g1⟩ := HRG.out i rfl
      have h := HF.out
      obtain ⟨p, hp, h⟩ := Option.bind_eq_some_iff.mp (show rowSlot L i = some r from h)
      obtain rfl := Option.some.inj h
      obtain ⟨r1, r2, r3, r4, r5, r6, r7, r8, r9⟩ := p
      have HP := Aside0.mk hp
      clear h hp HF
      obtain ⟨ad, A6, c6, eA, hx0, hx1, hx2, hx3, hx4, hx5, hx6, hx7, hx8, hl6, hC6⟩ := at_T101 HOr8.out.hr i g0 g1
      cases eA
      have HC6 := Aside0.mk hC6
      have HL6 := Aside0.mk hl6
      clear hC6 hl6 g0 g1
      obtain ⟨q, hq⟩ : ∃ q, q = rd_T101 L i := ⟨_, rfl⟩
      rw [← hq] at HP hx0 hx1 hx2 hx3 hx4 hx5 hx6 hx7 hx8 HC6 HL6
      clear hq
      obtain ⟨hc0, hc1, hc2, hc3, hc4, hc5, hc6, hc7, hc8, hf0, hf1, hf2, hf3, hf4, hf5, hf6, hf7, hf8⟩ := bkA9 BX8.out.h2
      show _
      simp only [ptrRow]
      go_wp2_with (first | (go_at_call 60; refine (impl_row_slot.calls q.f0.f0.f0 q.f0.f0.f1 q.f0.f1 q.f1 q.f2 q.f3 A6 c6 q.f4 q.f5 q.f6 r1 r2 r3 r4 r5 r6 r7 r8 r9 _ HC6.out HL6.out HP.out).mono ?_; rintro e w9 ⟨v, rfl, ho9, hb9⟩; obtain ⟨A9, c9, rfl⟩ := Kd.R_slice ho9; have BX9 := Aside0.mk (BX8.out.keep hb9); have HO9 := Aside0.mk (Kd.R_lower ho9 (below_size BX8.out.bel)); clear ho9 hb9 hc0 hf0 hx0 hc1 hf1 hx1 hc2 hf2 hx2 hc3 hf3 hx3 hc4 hf4 hx4 hc5 hf5 hx5 hc6 hf6 hx6 hc7 hf7 hx7 hc8 hf8 hx8; obtain ⟨hc0, hc1, hc2, hc3, hc4, hc5, hc6, hc7, hc8, hf0, hf1, hf2, hf3, hf4, hf5, hf6, hf7, hf8⟩ := bkA9 BX9.out.h2))
      refine bodyPost_ret (results_cell_row rfl _ _ (w.heap.size + 1 + 1) 32 #[.int .i64 r1, .string r2, .bool r3, .string r4, .slice A9 r5.length c9, .int .i64 r6, .int .i64 r7, .int .i64 r8, .int .i64 r9] (0, 0) _ rfl (blk_put (cs := #[.int .i64 r1, .string r2, .bool r3, .string r4, .slice A9 r5.length c9, .int .i64 r6, .int .i64 r7, .int .i64 r8, .int .i64 0]) (blk_put (cs := #[.int .i64 r1, .string r2, .bool r3, .string r4, .slice A9 r5.length c9, .int .i64 r6, .int .i64 r7, .int .i64 0, .int .i64 0]) (blk_put (cs := #[.int .i64 r1, .string r2, .bool r3, .string r4, .slice A9 r5.length c9, .int .i64 r6, .int .i64 0, .int .i64 0, .int .i64 0]) (blk_put (cs := #[.int .i64 r1, .string r2, .bool r3, .string r4, .slice A9 r5.length c9, .int .i64 0, .int .i64 0, .int .i64 0, .int .i64 0]) (blk_put (cs := #[.int .i64 r1, .string r2, .bool r3, .string r4, .slice none 0 0, .int .i64 0, .int .i64 0, .int .i64 0, .int .i64 0]) (blk_put (cs := #[.int .i64 r1, .string r2, .bool r3, .string ⟨#[]⟩, .slice none 0 0, .int .i64 0, .int .i64 0, .int .i64 0, .int .i64 0]) (blk_put (cs := #[.int .i64 r1, .string r2, .bool false, .string ⟨#[]⟩, .slice none 0 0, .int .i64 0, .int .i64 0, .int .i64 0, .int .i64 0]) (blk_put (cs := #[.int .i64 r1, .string ⟨#[]⟩, .bool false, .string ⟨#[]⟩, .slice none 0 0, .int .i64 0, .int .i64 0, .int .i64 0, .int .i64 0]) (blk_put (cs := #[.int .i64 0, .string ⟨#[]⟩, .bool false, .string ⟨#[]⟩, .slice none 0 0, .int .i64 0, .int .i64 0, .int .i64 0, .int .i64 0]) BX9.out.h2 0 _ rfl) 1 _ rfl) 2 _ rfl) 3 _ rfl) 4 _ rfl) 5 _ rfl) 6 _ rfl) 7 _ rfl) 8 _ rfl) Tryd.underlying32 rfl (by kernel_rfl)) rfl ?_
      exact ⟨.slice A9 r5.length c9, rfl, Kd.R_mono (Kd.R_far (p := ⟨w.heap.size + 1 + 1, 8, none⟩) (Kd.R_far (p := ⟨w.heap.size + 1 + 1, 7, none⟩) (Kd.R_far (p := ⟨w.heap.size + 1 + 1, 6, none⟩) (Kd.R_far (p := ⟨w.heap.size + 1 + 1, 5, none⟩) (Kd.R_far (p := ⟨w.heap.size + 1 + 1, 4, none⟩) (Kd.R_far (p := ⟨w.heap.size + 1 + 1, 3, none⟩) (Kd.R_far (p := ⟨w.heap.size + 1 + 1, 2, none⟩) (Kd.R_far (p := ⟨w.heap.size + 1 + 1, 1, none⟩) (Kd.R_far (p := ⟨w.heap.size + 1 + 1, 0, none⟩) (Kd.R_types HO9.out BX9.out.h2 (by decide)) (fun _ hk => hk.2) (.int .i64 r1)) (fun _ hk => hk.2) (.string r2)) (fun _ hk => hk.2) (.bool r3)) (fun _ hk => hk.2) (.string r4)) (fun _ hk => hk.2) (.slice A9 r5.length c9)) (fun _ hk => hk.2) (.int .i64 r6)) (fun _ hk => hk.2) (.int .i64 r7)) (fun _ hk => hk.2) (.int .i64 r8)) (fun _ hk => hk.2) (.int .i64 r9)) (fun _ _ => trivial), (below_set (below_set (below_set (below_set (below_set (below_set (below_set (below_set (below_set BX9.out.bel (by show w.heap.size ≤ w.heap.size + 1 + 1; omega)) (by show w.heap.size ≤ w.heap.size + 1 + 1; omega)) (by show w.heap.size ≤ w.heap.size + 1 + 1; omega)) (by show w.heap.size ≤ w.heap.size + 1 + 1; omega)) (by show w.heap.size ≤ w.heap.size + 1 + 1; omega)) (by show w.heap.size ≤ w.heap.size + 1 + 1; omega)) (by show w.heap.size ≤ w.heap.size + 1 + 1; omega)) (by show w.heap.size ≤ w.heap.size + 1 + 1; omega)) (by show w.heap.size ≤ w.heap.size + 1 + 1; omega))⟩
end Go.Proofs.YtnbohlcibgfjaaaDoor.Gp
end
section
namespace Go.Proofs.YtnbohlcibgfjaaaDoor.Gp
open Go.RowKit Go.Proofs.YtnbohlcibgfjaaaDoorW.PrintWords Go.Proofs.YtnbohlcibgfjaaaDoorW.PrintLast Go.Proofs.YtnbohlcibgfjaaaDoorW.PrintMore
set_option linter.unusedVariables false
set_option linter.unusedSimpArgs false
def laws_markTable.f (k : Nat) (l : List SlU) (x : Int) : Option (Int × List SlU) := laws_markSlotS.f k l x
set_option maxHeartbeats 8000000 in
set_option maxRecDepth 100000 in
theorem laws_markTable.calls (k : Nat) (P : Nat → Prop) (v : Value) (l : List SlU) (a1 r1 : Int) (l' : List SlU) (w0 w : World) (hB : Below w0.heap.size w0 w) (hS : Kd.S k32 32 w w0.heap.size P v l) (h : laws_markTable.f k l a1 = some (r1, l')) :
    Calls Tryd.prog 21 #[.agg #[v], .int .i64 a1] w fun e w' => e = .returned (.int .i64 r1) ∧ Kd.S k32 32 w' w0.heap.size P v l' ∧ Below w0.heap.size w0 w' ∧ Kept w w' P := by
  have hu := Tryd.underlying36
  obtain ⟨A, c, rfl⟩ := Kd.S_slice hS
  have HS := Aside0.mk hS
  have HB := Aside0.mk hB
  have H := Aside0.mk h
  clear hS hB h
  go_enter Tryd.func21, Tryd.ntmps21
  go_wp2_with (go_at_call 63; refine (laws_markSlotS.calls k P _ l a1 r1 l' w0 _ (HB.out.alloc (below_size HB.out) _) (Kd.S_alloc HS.out _) H.out).mono ?_; rintro e w2 ⟨rfl, hs, hb, hk⟩; have HS2 := Aside0.mk hs; have HB2 := Aside0.mk hb; have HK2 := Aside0.mk (Kept.then_ (Kept.of_below (below_alloc (Below.refl _ _) _) P) hk (fun _ h => .inl h)); clear hs hb hk)
  go_ret
  exact ⟨rfl, HS2.out, HB2.out, HK2.out⟩
end Go.Proofs.YtnbohlcibgfjaaaDoor.Gp
end
section
namespace Go.Proofs.YtnbohlcibgfjaaaDoor.Gp
open Go.RowKit Go.Proofs.YtnbohlcibgfjaaaDoorW.PrintWords Go.Proofs.YtnbohlcibgfjaaaDoorW.PrintLast Go.Proofs.YtnbohlcibgfjaaaDoorW.PrintMore
set_option linter.unusedVariables false
set_option linter.unusedSimpArgs false
def laws_markSlot.f (k : Nat) (a0_0 : Int) (a0_1 : ByteArray) (a0_2 : Bool) (a0_3 : ByteArray) (l0_4 : List (S29)) (a0_5 : Int) (a0_6 : Int) (a0_7 : Int) (a0_8 : Int) (a1 : Int) : Option (Int × (List (S29))) := (laws_markKeyS.f k l0_4 a1).bind fun bt271 => (some (bt271.1, bt271.2))
set_option maxHeartbeats 8000000 in
set_option maxRecDepth 100000 in
theorem laws_markSlot.calls (k : Nat) (a0_0 : Int) (a0_1 : ByteArray) (a0_2 : Bool) (a0_3 : ByteArray) (P0_4_ : Nat → Prop) (u9000_ : Value) (l0_4 : List (S29)) (a0_5 : Int) (a0_6 : Int) (a0_7 : Int) (a0_8 : Int) (a1 : Int) (r1 : Int) (r2 : List (S29)) (w0 w : World) (hB : Below w0.heap.size w0 w) (ho0_4 : Kd.R k29 29 w w0.heap.size P0_4_ u9000_ l0_4) (h : laws_markSlot.f k a0_0 a0_1 a0_2 a0_3 l0_4 a0_5 a0_6 a0_7 a0_8 a1 = some (r1, r2)) :
    Calls Tryd.prog 22 #[.agg #[.int .i64 a0_0, .string a0_1, .bool a0_2, .string a0_3, u9000_, .int .i64 a0_5, .int .i64 a0_6, .int .i64 a0_7, .int .i64 a0_8], .int .i64 a1] w fun e w' => e = .returned (.int .i64 r1) ∧ Kd.R k29 29 w' w0.heap.size (fun k_ => (P0_4_ k_ ∨ w.heap.size ≤ k_)) u9000_ r2 ∧ Below w0.heap.size w0 w' ∧ Kept w w' (fun k_ => P0_4_ k_) := by
  have hu32 := Tryd.underlying32
  have HO0_4 := Aside0.mk (show Kd.R k29 29 w w0.heap.size (fun k_ => (P0_4_ k_ ∨ w.heap.size ≤ k_)) u9000_ l0_4 from Kd.R_mono ho0_4 (fun k_ hk => (.inl hk)))
  have HK := Aside0.mk (Kept.refl w (fun k_ => P0_4_ k_))
  have HW0 := Aside0.mk hB.size
  have HB := Aside0.mk hB
  clear hB
  have H : ((laws_markKeyS.f k l0_4 a1).bind fun bt271 => (some (bt271.1, bt271.2))) = some (r1, r2) := h
  clear h
  replace H := Option.bind_eq_some_iff.mp H
  obtain ⟨⟨t271, t272⟩, A30, H⟩ := H
  replace H : (some (t271, t272)) = some (r1, r2) := H
  have A3 := Aside0.mk A30
  clear A30
  simp only [Option.some.injEq, Prod.mk.injEq] at H
  obtain ⟨rfl, rfl⟩ := H
  obtain ⟨Ao4, co4, eo4⟩ := Kd.R_slice HO0_4.out
  subst eo4
  go_enter Tryd.func22, Tryd.ntmps22
  go_wp2_with (first | ((with_reducible refine gate_dst (N := 2) rfl ?_); refine box_event ?hg (N := 2) ?hd (cs := #[.int .i64 a0_0, .string a0_1, .bool a0_2, .string a0_3, .slice Ao4 l0_4.length co4, .int .i64 a0_5, .int .i64 a0_6, .int .i64 a0_7, .int .i64 a0_8]) (t := 32) ?hr ?_; (case hd => rfl); (case hg => rfl); (case hr => first | (go_simp; done) | (go_simp; rfl)); intro gb270 hg w5 hbox hb; have n0_ := Aside0.mk (Kd.R_below (by (with_reducible repeat (first | apply Kd.R_alloc | apply Kd.R_drewN | apply Kd.R_drew)); exact HO0_4.out) hb); have n1_ := Aside0.mk (Kept.below (S := (fun k_ => P0_4_ k_)) (by repeat (first | (with_reducible first | exact HK.out | apply Kept.alloc | apply Kept.drewN | apply Kept.drew) | exact HK.out)) hb); have n2_ := Aside0.mk (below_step (by repeat (first | (with_reducible first | exact HB.out | apply below_alloc | apply pw_below_drewN | apply below_drew1) | exact HB.out)) hb); have n3_ := Aside0.mk (hbox); have n4_ := Aside0.mk ((by rw [hg]; exact (by first | exact HK.out.1 | exact (show Kept w _ (fun k_ => P0_4_ k_) from by repeat (first | (with_reducible first | exact HK.out | apply Kept.alloc | apply Kept.drewN | apply Kept.drew) | exact HK.out)).1) : w.heap.size ≤ gb270)); have n5_ := Aside0.mk ((by rw [hg]; exact (below_size (by repeat (first | (with_reducible first | exact HB.out | apply below_alloc | apply pw_below_drewN | apply below_drew1) | exact HB.out))) : w0.heap.size ≤ gb270)); clear HO0_4; clear HK; clear HB; have HO0_4 := n0_; have HK := n1_; have HB := n2_; have BK270 := n3_; have GW270 := n4_; have GE270 := n5_; clear n0_ n1_ n2_ n3_ n4_ n5_; clear hb hbox hg; obtain ⟨hcz6_0, hcz6_1, hcz6_2, hcz6_3, hcz6_4, hcz6_5, hcz6_6, hcz6_7, hcz6_8, hfz6_0, hfz6_1, hfz6_2, hfz6_3, hfz6_4, hfz6_5, hfz6_6, hfz6_7, hfz6_8⟩ := bkA9 BK270.out) | ((with_reducible refine gate_callee (f := 39) rfl ?_); refine goesL_ (some 8) rfl rfl Tryd.func39 (by kernel_rfl) rfl #[.slice Ao4 l0_4.length co4, .int .i64 a1] rfl (by (try simp only [List.map_toArray, List.map_cons, List.map_nil]); first | done | rfl | (simp only [List.length_drop, List.length_take]; rfl)) ?_; (with_reducible refine (laws_markKeyS.calls k (fun k_ => some k_ = (.slice Ao4 l0_4.length co4 : Value).ownBlock) (.slice Ao4 l0_4.length co4) l0_4 a1 t271 t272 w0 _ ?side1 ?side2 A3.out).mono ?_); (case side1 => repeat (first | (with_reducible first | exact HB.out | apply below_alloc | apply pw_below_drewN | apply below_drew1 | refine below_set ?_ GE270.out) | exact HB.out)); (case side2 => exact Kd.R_tight rfl HO0_4.out); rintro e w7 ⟨rfl, hy0, hb, hkp⟩; refine ⟨_, rfl, ?_⟩; have n0_ := Aside0.mk (Kd.R_reok rfl hy0 (fun k_ e_ => HO0_4.out.1 k_ e_)); have n1_ := Aside0.mk (blk_kept (by (with_reducible repeat (first | refine blk_drewN ?_ _ | refine blk_drew ?_ | refine blk_alloc ?_ _)); exact BK270.out) hkp (fun hs_ => (fun e_ => (Kd.R_ne HO0_4.out BK270.out (by decide)) e_) hs_)); have n2_ := Aside0.mk (Kept.then_ (S := (fun k_ => P0_4_ k_)) (by repeat (first | (with_reducible first | exact HK.out | apply Kept.alloc | apply Kept.drewN | apply Kept.drew | refine Kept.setCell ?_ (.inr GW270.out) _) | exact HK.out)) hkp (fun k_ hs_ => (fun e_ => (HO0_4.out.1 k_ e_.symm)) hs_)); have n3_ := Aside0.mk (hb); clear HO0_4; clear BK270; clear HK; clear HB; have HO0_4 := n0_; have BK270 := n1_; have HK := n2_; have HB := n3_; clear n0_ n1_ n2_ n3_; (try clear hb); (try clear hkp); (try clear hy0)))
  go_ret
  exact ⟨by first | rfl | (simp [errW_none, errW_some] <;> rfl) | (simp [*, errW_none, errW_some] <;> rfl), by (with_reducible repeat (first | apply Kd.R_alloc | apply Kd.R_drewN | apply Kd.R_drew)); exact HO0_4.out, by repeat (first | (with_reducible first | exact HB.out | apply below_alloc | apply pw_below_drewN | apply below_drew1 | refine below_set ?_ GE270.out) | exact HB.out), by repeat (first | (with_reducible first | exact HK.out | apply Kept.alloc | apply Kept.drewN | apply Kept.drew | refine Kept.setCell ?_ (.inr GW270.out) _) | exact HK.out)⟩
def laws_heldKeyS.l0 : Nat → List (S29) → Int → Int → Option (Int)
  | 0, _, _, _ => none
  | k + 1, x0, x1, x5 => if x5 < (x0.length : Int) then (if 0 ≤ x5 then (if ((rd_T29 x0 x5).f0) = x1 then ((laws_markText.f k (wrap64 (x1 + 1))).bind fun t275 => (if ((rd_T29 x0 x5).f1).toList = t275.toList then (laws_heldKeyS.l0 k x0 (wrap64 ((wrap64 (x1 + 1)) + 1)) (wrap64 (x5 + 1))) else (some (-1)))) else (some (-1))) else (none)) else (some x1)
def laws_heldKeyS.f (k : Nat) (l0 : List (S29)) (a1 : Int) : Option (Int) := laws_heldKeyS.l0 k l0 a1 0
def laws_heldKeyS.T7 : Bool × List (List Nat × List Nat) := (true, [([], []), ([], []), ([0, 1], [0, 1]), ([2], [2]), ([3], [3]), ([], []), ([5], [5]), ([4, 6], [4, 6])])
def laws_heldKeyS.B7 : List Nat := [0, 0, 3, 7, 15, 0, 32, 127]
theorem laws_heldKeyS.tab7 : rtab .any (opsOf Tryd.f64 7) = laws_heldKeyS.T7 := by kernel_rfl
theorem laws_heldKeyS.bits7 : waitsOk laws_heldKeyS.T7.2 laws_heldKeyS.B7 = true := by kernel_rfl
set_option maxHeartbeats 8000000 in
set_option maxRecDepth 100000 in
theorem laws_heldKeyS.calls (k : Nat) (A0 : Option Addr) (c0 : Nat) (l0 : List (S29)) (a1 : Int) (r : Int) (w : World) (hr0 : Kd.C k29 w A0 l0.length l0) (hc0 : l0.length ≤ c0) (h : laws_heldKeyS.f k l0 a1 = some r) :
    Calls Tryd.prog 64 #[.slice A0 l0.length c0, .int .i64 a1] w fun e w' => e = .returned (.int .i64 r) ∧ Below w.heap.size w w' := by
  have HR0 := Aside0.mk hr0
  have HC0 := Aside0.mk hc0
  clear hr0 hc0
  have HB := Aside0.mk (Below.refl w.heap.size w)
  have H : (laws_heldKeyS.l0 k l0 a1 0) = some r := h
  clear h
  have H' := Aside0.mk H
  clear H
  go_enter Tryd.func64, Tryd.ntmps64
  go_wp2
  go_loopg [1, 5] k (fun kq v1 v5 w' => ∃ (x1_1 : Int) (x5_1 : Int), v1 = .int .i64 x1_1 ∧ v5 = .int .i64 x5_1 ∧ Aside0 (laws_heldKeyS.l0 kq l0 x1_1 x5_1 = some r) ∧ Aside0 (kq ≤ k) ∧ Aside0 (Below w.heap.size w w'))
  case atStart => exact ⟨(a1), (0), (by first | rfl | (simp; done) | (simp [*]; done)), (by first | rfl | (simp; done) | (simp [*]; done)), H', ⟨Nat.le_refl _⟩, ⟨by repeat (first | (with_reducible first | exact HB.out | apply below_alloc | apply pw_below_drewN | apply below_drew1) | exact HB.out)⟩⟩
  case round =>
    clear H'
    try clear p2
    obtain ⟨x1_1, x5_1, rfl, rfl, HA, HK1, HB⟩ := hrel
    cases gk with
    | zero => exact absurd HA.out (by simp [laws_heldKeyS.l0])
    | succ k1 =>
      have H := HA.out
      clear HA
      simp only [laws_heldKeyS.l0] at H
      by_cases c3 : x5_1 < (l0.length : Int)
      · rw [if_pos c3] at H
        have c3b0 : decide (x5_1 < (l0.length : Int)) = true := decide_eq_true c3
        clear c3
        by_cases c4 : 0 ≤ x5_1
        · rw [if_pos c4] at H
          have c4b0 : decide (0 ≤ x5_1) = true := decide_eq_true c4
          clear c4
          by_cases c5 : ((rd_T29 l0 x5_1).f0) = x1_1
          · rw [if_pos c5] at H
            have c5b0 : (((rd_T29 l0 x5_1).f0) == x1_1) = true := beq_iff_eq.mpr c5
            have c5b1 : (((rd_T29 l0 x5_1).f0) != x1_1) = false := bne_eq_false_iff_eq.mpr c5
            clear c5
            replace H := Option.bind_eq_some_iff.mp H
            obtain ⟨t275, A60, H⟩ := H
            replace H : (if ((rd_T29 l0 x5_1).f1).toList = t275.toList then (laws_heldKeyS.l0 k1 l0 (wrap64 ((wrap64 (x1_1 + 1)) + 1)) (wrap64 (x5_1 + 1))) else (some (-1))) = some r := H
            have A6 := Aside0.mk A60
            clear A60
            have HL7 := Aside0.mk H
            clear H
            have p273 : 0 ≤ (x5_1 : Int) := of_decide_eq_true (by first | (with_reducible assumption) | assumption)
            have q273 : x5_1 < (l0.length : Int) := of_decide_eq_true (by first | (with_reducible assumption) | assumption)
            obtain ⟨ad273, e273, hx273_0, hx273_1⟩ := at_T29 HR0.out x5_1 p273 q273
            cases e273
            replace hx273_0 := (HB.out.cell (World.block_lt_of_cell? w _ hx273_0)).trans hx273_0
            replace hx273_1 := (HB.out.cell (World.block_lt_of_cell? w _ hx273_1)).trans hx273_1
            replace p273 := eq_true p273
            replace q273 := eq_true q273
            try go_wp2
            have n0_ := Aside0.mk (below_drew1 HB.out)
            clear HB
            have HB := n0_
            clear n0_
            have p274 : 0 ≤ (x5_1 : Int) := of_decide_eq_true (by first | (with_reducible assumption) | assumption)
            have q274 : x5_1 < (l0.length : Int) := of_decide_eq_true (by first | (with_reducible assumption) | assumption)
            obtain ⟨ad274, e274, hx274_0, hx274_1⟩ := at_T29 HR0.out x5_1 p274 q274
            have hw274_1 := hx274_1
            have hw274_0 := hx274_0
            obtain rfl : ad273 = ad274 := (by injection e274)
            replace hx274_0 := (HB.out.cell (World.block_lt_of_cell? w _ hx274_0)).trans hx274_0
            replace hx274_1 := (HB.out.cell (World.block_lt_of_cell? w _ hx274_1)).trans hx274_1
            replace p274 := eq_true p274
            replace q274 := eq_true q274
            refine start_ (n := 8) (S := fun w' => w'.cell? (ad273.add ((x5_1).toNat * 2)) = some (.int .i64 ((rd_T29 l0 x5_1).f0)) ∧ w'.cell? ⟨(ad273.add ((x5_1).toNat * 2)).block, (ad273.add ((x5_1).toNat * 2)).off + 1, none⟩ = some (.string ((rd_T29 l0 x5_1).f1))) (ds := []) #[false, false, false, false, false, false, false, false] (by kernel_rfl) rfl rfl ⟨((HB.out.cell (World.block_lt_of_cell? w _ hw274_0)).trans hw274_0), ((HB.out.cell (World.block_lt_of_cell? w _ hw274_1)).trans hw274_1)⟩ (fun hHeld => ?_); refine with_tabW laws_heldKeyS.tab7 laws_heldKeyS.bits7 (fun HT_ HW_ => ?_)
            generalize wr.drew = w8 at HB hx274_0 hx274_1 hHeld ⊢
            refine pure_ (i := 0) (N := some 21) (v := ?_) (a' := ?_) #[true, false, false, false, false, false, false, false] rfl rfl (any_of HT_.out (by kernel_rfl)) (fun _ _ _ h => h) (Or.inl ⟨by rfl, ?_⟩) ?_ ?_
            rotate_left
            · intro w'
              go_simp
              with_reducible rfl
            rotate_left
            · simp only [Act.put, sA_, i64_w, i32_w]
              rfl
            refine pure_ (i := 1) (N := some 22) (v := ?_) (a' := ?_) #[true, true, false, false, false, false, false, false] rfl rfl (any_of HT_.out (by kernel_rfl)) (fun _ _ _ h => h) (Or.inl ⟨by rfl, ?_⟩) ?_ ?_
            rotate_left
            · intro w'
              go_simp
              with_reducible rfl
            rotate_left
            · simp only [Act.put, sA_, i64_w, i32_w]
              rfl
            refine pure_ (i := 2) (N := some 23) (v := ?_) (a' := ?_) #[true, true, true, false, false, false, false, false] rfl rfl (any_of HT_.out (by kernel_rfl)) (fun _ _ _ h => h) (Or.inl ⟨by rfl, ?_⟩) ?_ ?_
            rotate_left
            · intro w'
              go_simp
              with_reducible rfl
            rotate_left
            · simp only [Act.put, sA_, i64_w, i32_w]
              rfl
            refine pure_ (i := 3) (N := some 24) (v := ?_) (a' := ?_) #[true, true, true, true, false, false, false, false] rfl rfl (any_of HT_.out (by kernel_rfl)) (fun _ _ _ h => h) (Or.inl ⟨by rfl, ?_⟩) ?_ ?_
            rotate_left
            · intro w'
              go_simp
              with_reducible rfl
            rotate_left
            · simp only [Act.put, sA_, i64_w, i32_w]
              rfl
            refine pure_ (i := 5) (N := some 26) (v := ?_) (a' := ?_) #[true, true, true, true, false, true, false, false] rfl rfl (any_of HT_.out (by kernel_rfl)) (fun _ _ _ h => h) (Or.inl ⟨by rfl, ?_⟩) ?_ ?_
            rotate_left
            · intro w'
              go_simp
              with_reducible rfl
            rotate_left
            · simp only [Act.put, sA_, i64_w, i32_w]
              rfl
            refine take_ (i := 4) (N := some 25) (v := ?_) (a' := ?_) #[true, true, true, true, true, true, false, false] rfl rfl (take_ofW HT_.out HW_.out (by kernel_rfl)) (fun _ _ _ h => h) (Or.inl ⟨by rfl, ?_⟩) hHeld ?_ ?_
            rotate_left
            · rintro w' ⟨s0, s1⟩
              go_simp
              with_reducible rfl
            rotate_left
            · simp only [Act.put, sA_, i64_w, i32_w]
              rfl
            refine one_ (i := 6) (N := some 27) #[true, true, true, true, true, true, true, false] rfl rfl (one_of HT_.out (by kernel_rfl)) (by decide) (fun K hK => ?_)
            refine goes_ Tryd.func90 (by kernel_rfl) rfl #[.int .i64 (wrap64 (x1_1 + 1))] (by rfl) rfl rfl (by (try simp only [List.map_toArray, List.map_cons, List.map_nil]); first | done | rfl | (simp only [List.length_drop, List.length_take]; rfl)) ?_
            with_reducible refine (laws_markText.calls k1 (wrap64 (x1_1 + 1)) t275 _ A6.out).mono ?_
            rintro e w9 ⟨rfl, hb⟩
            refine ⟨_, rfl, ?_⟩
            have hb1_ := fromP HB.out hb (by repeat (first | (with_reducible exact Below.refl _ _) | apply below_alloc | apply pw_below_drewN | apply below_drew1))
            have hb0_ := below_step hb1_ hb
            replace HB := kH HB hb0_
            clear hb1_ hb0_
            (try clear hb)
            (try clear hb2)
            (try clear hk)
            (try clear hi)
            refine hK.out _ _ ⟨((HB.out.cell (World.block_lt_of_cell? w _ hw274_0)).trans hw274_0), ((HB.out.cell (World.block_lt_of_cell? w _ hw274_1)).trans hw274_1)⟩ (fun hHeld => ?_)
            clear hK K
            refine norm_ (a' := ?_) ?_ ?_
            rotate_left
            · show Act.put _ (some 27) _ = _
              simp only [Act.put, sA_, i64_w, i32_w]
              rfl
            refine pure_ (i := 7) (N := some 28) (v := ?_) (a' := ?_) #[true, true, true, true, true, true, true, true] rfl rfl (any_of HT_.out (by kernel_rfl)) (fun _ _ _ h => h) (Or.inl ⟨by rfl, ?_⟩) ?_ ?_
            rotate_left
            · intro w'
              go_simp
              with_reducible rfl
            rotate_left
            · simp only [Act.put, sA_, i64_w, i32_w]
              rfl
            refine done_ (done_of HT_.out (by kernel_rfl)) ?_
            go_upto_if 28 with (fail)
            have H := HL7.out
            clear HL7
            by_cases c10 : ((rd_T29 l0 x5_1).f1).toList = t275.toList
            · rw [if_pos c10] at H
              have c10b0 : (((rd_T29 l0 x5_1).f1).toList == t275.toList) = true := beq_iff_eq.mpr c10
              have c10b1 : (((rd_T29 l0 x5_1).f1).toList != t275.toList) = false := bne_eq_false_iff_eq.mpr c10
              clear c10
              (first | rw [c10b0] | (simp only [i64_w, i32_w]; rw [c10b0]) | simp only [c10b2, Bool.not_false, Bool.not_true] | skip)
              have H' := Aside0.mk H
              clear H
              go_wp2
              go_roundg k1
              case measure => have := HK1.out; omega
              case rel => exact ⟨(wrap64 ((wrap64 (x1_1 + 1)) + 1)), (wrap64 (x5_1 + 1)), (by first | rfl | (simp; done) | (simp [*]; done)), (by first | rfl | (simp; done) | (simp [*]; done)), H', ⟨by have := HK1.out; omega⟩, ⟨by repeat (first | (with_reducible first | exact HB.out | apply below_alloc | apply pw_below_drewN | apply below_drew1) | exact HB.out)⟩⟩
            · rw [if_neg c10] at H
              have c10b0 : (((rd_T29 l0 x5_1).f1).toList == t275.toList) = false := beq_eq_false_iff_ne.mpr c10
              have c10b1 : (((rd_T29 l0 x5_1).f1).toList != t275.toList) = true := bne_iff_ne.mpr c10
              (first | rw [c10b0] | (simp only [i64_w, i32_w]; rw [c10b0]) | simp only [c10b2, Bool.not_false, Bool.not_true] | skip)
              obtain rfl := Option.some.inj H
              go_wp2
              go_ret
              exact ⟨by first | rfl | (simp [errW_none, errW_some] <;> rfl) | (simp [*, errW_none, errW_some] <;> rfl), by repeat (first | (with_reducible first | exact HB.out | apply below_alloc | apply pw_below_drewN | apply below_drew1) | exact HB.out)⟩
          · rw [if_neg c5] at H
            have c5b0 : (((rd_T29 l0 x5_1).f0) == x1_1) = false := beq_eq_false_iff_ne.mpr c5
            have c5b1 : (((rd_T29 l0 x5_1).f0) != x1_1) = true := bne_iff_ne.mpr c5
            obtain rfl := Option.some.inj H
            have p273 : 0 ≤ (x5_1 : Int) := of_decide_eq_true (by first | (with_reducible assumption) | assumption)
            have q273 : x5_1 < (l0.length : Int) := of_decide_eq_true (by first | (with_reducible assumption) | assumption)
            obtain ⟨ad273, e273, hx273_0, hx273_1⟩ := at_T29 HR0.out x5_1 p273 q273
            cases e273
            replace hx273_0 := (HB.out.cell (World.block_lt_of_cell? w _ hx273_0)).trans hx273_0
            replace hx273_1 := (HB.out.cell (World.block_lt_of_cell? w _ hx273_1)).trans hx273_1
            replace p273 := eq_true p273
            replace q273 := eq_true q273
            go_wp2
            go_ret
            exact ⟨by first | rfl | (simp [errW_none, errW_some] <;> rfl) | (simp [*, errW_none, errW_some] <;> rfl), by repeat (first | (with_reducible first | exact HB.out | apply below_alloc | apply pw_below_drewN | apply below_drew1) | exact HB.out)⟩
        · rw [if_neg c4] at H
          exact absurd H (by simp)
      · rw [if_neg c3] at H
        have c3b0 : decide (x5_1 < (l0.length : Int)) = false := decide_eq_false c3
        clear c3
        obtain rfl := Option.some.inj H
        go_wp2
        go_ret
        exact ⟨by first | rfl | (simp [errW_none, errW_some] <;> rfl) | (simp [*, errW_none, errW_some] <;> rfl), by repeat (first | (with_reducible first | exact HB.out | apply below_alloc | apply pw_below_drewN | apply below_drew1) | exact HB.out)⟩
def laws_heldSlot.f (k : Nat) (a0_0 : Int) (a0_1 : ByteArray) (a0_2 : Bool) (a0_3 : ByteArray) (l0_4 : List (S29)) (a0_5 : Int) (a0_6 : Int) (a0_7 : Int) (a0_8 : Int) (a1 : Int) : Option (Int) := (laws_heldKeyS.f k l0_4 a1).bind fun t277 => (if t277 < 0 then (some (-1)) else (some t277))
set_option maxHeartbeats 8000000 in
set_option maxRecDepth 100000 in
theorem laws_heldSlot.calls (k : Nat) (a0_0 : Int) (a0_1 : ByteArray) (a0_2 : Bool) (a0_3 : ByteArray) (A0_4 : Option Addr) (c0_4 : Nat) (l0_4 : List (S29)) (a0_5 : Int) (a0_6 : Int) (a0_7 : Int) (a0_8 : Int) (a1 : Int) (r : Int) (w : World) (hr0_4 : Kd.C k29 w A0_4 l0_4.length l0_4) (hc0_4 : l0_4.length ≤ c0_4) (h : laws_heldSlot.f k a0_0 a0_1 a0_2 a0_3 l0_4 a0_5 a0_6 a0_7 a0_8 a1 = some r) :
    Calls Tryd.prog 23 #[.agg #[.int .i64 a0_0, .string a0_1, .bool a0_2, .string a0_3, .slice A0_4 l0_4.length c0_4, .int .i64 a0_5, .int .i64 a0_6, .int .i64 a0_7, .int .i64 a0_8], .int .i64 a1] w fun e w' => e = .returned (.int .i64 r) ∧ Below w.heap.size w w' := by
  have hu32 := Tryd.underlying32
  have HR0_4 := Aside0.mk hr0_4
  have HC0_4 := Aside0.mk hc0_4
  clear hr0_4 hc0_4
  have HB := Aside0.mk (Below.refl w.heap.size w)
  have H : ((laws_heldKeyS.f k l0_4 a1).bind fun t277 => (if t277 < 0 then (some (-1)) else (some t277))) = some r := h
  clear h
  replace H := Option.bind_eq_some_iff.mp H
  obtain ⟨t277, A30, H⟩ := H
  replace H : (if t277 < 0 then (some (-1)) else (some t277)) = some r := H
  have A3 := Aside0.mk A30
  clear A30
  have HL4 := Aside0.mk H
  clear H
  go_enter Tryd.func23, Tryd.ntmps23
  go_upto_if 10 with (first | ((with_reducible refine gate_dst (N := 2) rfl ?_); refine box_event ?hg (N := 2) ?hd (cs := #[.int .i64 a0_0, .string a0_1, .bool a0_2, .string a0_3, .slice A0_4 l0_4.length c0_4, .int .i64 a0_5, .int .i64 a0_6, .int .i64 a0_7, .int .i64 a0_8]) (t := 32) ?hr ?_; (case hd => rfl); (case hg => rfl); (case hr => first | (go_simp; done) | (go_simp; rfl)); intro gb276 hg w5 hbox hb; have hb1_ := fromP HB.out hb (by repeat (first | (with_reducible exact Below.refl _ _) | apply below_alloc | apply pw_below_drewN | apply below_drew1)); have hb0_ := below_step hb1_ hb; have hW_ := below_step HB.out hb1_; have n1_ := Aside0.mk (hbox); have n2_ := Aside0.mk ((by rw [hg]; exact (below_size hW_) : w.heap.size ≤ gb276)); have n3_ := Aside0.mk ((by rw [hg]; exact (below_size hW_) : w.heap.size ≤ gb276)); replace HB := kH HB hb0_; have BK276 := n1_; have GW276 := n2_; have GE276 := n3_; clear hb1_ hb0_ hW_ n1_ n2_ n3_; clear hb hbox hg; obtain ⟨hcz6_0, hcz6_1, hcz6_2, hcz6_3, hcz6_4, hcz6_5, hcz6_6, hcz6_7, hcz6_8, hfz6_0, hfz6_1, hfz6_2, hfz6_3, hfz6_4, hfz6_5, hfz6_6, hfz6_7, hfz6_8⟩ := bkA9 BK276.out) | ((with_reducible refine gate_callee (f := 64) rfl ?_); refine goesL_ (some 8) rfl rfl Tryd.func64 (by kernel_rfl) rfl #[.slice A0_4 l0_4.length c0_4, .int .i64 a1] rfl (by (try simp only [List.map_toArray, List.map_cons, List.map_nil]); first | done | rfl | (simp only [List.length_drop, List.length_take]; rfl)) ?_; (with_reducible refine (laws_heldKeyS.calls k _ _ l0_4 a1 t277 _ ?side1 ?side2 A3.out).mono ?_); (case side1 => repeat (first | exact (Kd.C_below HR0_4.out HB.out) | (with_reducible refine Kd.C_alloc ?_ _) | (with_reducible refine Kd.C_drewN ?_ _) | (with_reducible refine Kd.C_drew ?_))); (case side2 => exact HC0_4.out); rintro e w7 ⟨rfl, hb⟩; refine ⟨_, rfl, ?_⟩; have hb1_ := fromP HB.out hb (by repeat (first | (with_reducible exact Below.refl _ _) | apply below_alloc | apply pw_below_drewN | apply below_drew1)); have hb0_ := below_step hb1_ hb; replace BK276 := kB BK276 hb0_; replace HB := kH HB hb0_; clear hb1_ hb0_; (try clear hb); (try clear hb2); (try clear hk); (try clear hi)))
  have H := HL4.out
  clear HL4
  by_cases c8 : t277 < 0
  · rw [if_pos c8] at H
    have c8b0 : decide (t277 < 0) = true := decide_eq_true c8
    clear c8
    (first | rw [c8b0] | (simp only [i64_w, i32_w]; rw [c8b0]) | simp only [c8b2, Bool.not_false, Bool.not_true] | skip)
    obtain rfl := Option.some.inj H
    go_wp2
    go_ret
    exact ⟨by first | rfl | (simp [errW_none, errW_some] <;> rfl) | (simp [*, errW_none, errW_some] <;> rfl), by repeat (first | (with_reducible first | exact HB.out | apply below_alloc | apply pw_below_drewN | apply below_drew1 | refine below_set ?_ GE276.out) | exact HB.out)⟩
  · rw [if_neg c8] at H
    have c8b0 : decide (t277 < 0) = false := decide_eq_false c8
    clear c8
    (first | rw [c8b0] | (simp only [i64_w, i32_w]; rw [c8b0]) | simp only [c8b2, Bool.not_false, Bool.not_true] | skip)
    obtain rfl := Option.some.inj H
    go_wp2
    go_ret
    exact ⟨by first | rfl | (simp [errW_none, errW_some] <;> rfl) | (simp [*, errW_none, errW_some] <;> rfl), by repeat (first | (with_reducible first | exact HB.out | apply below_alloc | apply pw_below_drewN | apply below_drew1 | refine below_set ?_ GE276.out) | exact HB.out)⟩
end Go.Proofs.YtnbohlcibgfjaaaDoor.Gp
end
