/- A part of the proof of RowFnExactClaim: each text's theorems that it needs, packed by shake.py, a program of this work; Lean checks them. -/
import Derived.Test.YtnbohlcibgfjaaaDoorClm3
import Derived.Test.YtnbohlcibgfjaaaDoorClm15
import Derived.Test.YtnbohlcibgfjaaaDoorClm19
import Derived.Test.YtnbohlcibgfjaaaDoorClm18
import Derived.Test.YtnbohlcibgfjaaaDoorClm20
import Derived.Test.YtnbohlcibgfjaaaDoorClm22
section
namespace Go.Proofs.YtnbohlcibgfjaaaDoor.Gp
open Go.RowKit Go.Proofs.YtnbohlcibgfjaaaDoorW.PrintWords Go.Proofs.YtnbohlcibgfjaaaDoorW.PrintLast Go.Proofs.YtnbohlcibgfjaaaDoorW.PrintMore
set_option linter.unusedVariables false
set_option linter.unusedSimpArgs false
structure impl_Claim.Bx (w0 W : World) (A0 : Option Addr) (n0 c0 : Nat) : Prop where
 h0 : W.heap[w0.heap.size]? = some (.cells #[.slice A0 n0 c0] 36 (0, 0))
 h1 : W.heap[w0.heap.size + 1]? = some (.cells #[.slice none 0 0] 36 (0, 0))
 bel : Below w0.heap.size w0 W
theorem impl_Claim.Bx.keep {w0 W W1 : World} {A0 : Option Addr} {n0 c0 : Nat} (h : impl_Claim.Bx w0 W A0 n0 c0) (b : Below W.heap.size W W1) : impl_Claim.Bx w0 W1 A0 n0 c0 := ⟨blk_below h.h0 b, blk_below h.h1 b, below_step h.bel b⟩
theorem impl_Claim.Bx.init (w : World) (A0 : Option Addr) (n0 c0 : Nat) : impl_Claim.Bx w ((w.alloc (.cells #[.slice A0 n0 c0] 36)).alloc (.cells #[.slice none 0 0] 36)) A0 n0 c0 := ⟨blk_alloc (blk_new w _) _, blk_new_at (by simp), by repeat (first | exact Below.refl _ _ | apply below_alloc)⟩
set_option maxHeartbeats 4000000 in
set_option maxRecDepth 100000 in
theorem impl_Claim.clo (k g : Nat) (L : List RwT) (b0 : Int) (b1 : ByteArray) (wk rev cap : Int) (c : Int) (L' : List RwT) (gk gw gr gc : Nat) (w0 w : World) (hR : RowsAt w0 w g L) (hg0 : w.cell? ⟨gk, 0, none⟩ = some (.int .i64 b0)) (hg1 : w.cell? ⟨gk, 1, none⟩ = some (.string b1)) (hg2 : w.cell? ⟨gw, 0, none⟩ = some (.int .i64 wk)) (hg3 : w.cell? ⟨gr, 0, none⟩ = some (.int .i64 rev)) (hg4 : w.cell? ⟨gc, 0, none⟩ = some (.int .i64 cap)) (h : impl_rows_claim.f k L b0 b1 wk rev cap = some (c, L')) :
 Calls Tryd.prog 92 #[.pointer (some ⟨g, 0, none⟩), .pointer (some ⟨gk, 0, none⟩), .pointer (some ⟨gw, 0, none⟩), .pointer (some ⟨gr, 0, none⟩), .pointer (some ⟨gc, 0, none⟩)] w fun e w' => e = .returned (.int .i64 c) ∧ RowsAt w0 w' g L' := by
 have hu1 := Tryd.underlying101
 have hu2 := Tryd.underlying29
 have hu3 := Tryd.underlying32
 have hu4 := Tryd.underlying36
 have hu5 := Tryd.underlying97
 have HR := Aside0.mk hR
 have H := Aside0.mk h
 clear hR h
 go_enter Tryd.func92, Tryd.ntmps92
 go_wp2_with (go_at_call 93; refine (impl_rows_claim.claim k g L b0 b1 wk rev cap c L' w0 _ HR.out H.out).mono ?_; rintro e w6 ⟨rfl, hr⟩; have HR6 := Aside0.mk hr; clear hr)
 go_ret
 exact ⟨rfl, HR6.out⟩
def impl_Claim.ch (k : Nat) (l0 : List S32) (ok : Bool) (b0 : Int) (b1 : ByteArray) (wk rev cap : Int) : Option (List S32 × Int) := if ok = true then (impl_ValidTable.f k l0).bind fun t => (if t = true then (impl_Table_rows.f l0).bind fun L => (impl_rows_claim.f k L b0 b1 wk rev cap).bind fun p => (impl_rows_table.f p.2).bind fun r => some (r, p.1) else some ([], 9)) else some ([], 9)
set_option maxHeartbeats 16000000 in
set_option maxRecDepth 100000 in
theorem impl_Claim.changed (k : Nat) (A0 : Option Addr) (c0 : Nat) (l0 : List S32) (ok : Bool) (b0 : Int) (b1 : ByteArray) (wk rev cap : Int) (r : List S32) (c : Int) (gk gw gr gc : Nat) (w : World) (hG : GRes w) (hr0 : Kd.C k32 w A0 l0.length l0) (hc0 : l0.length ≤ c0) (hg0 : w.cell? ⟨gk, 0, none⟩ = some (.int .i64 b0)) (hg1 : w.cell? ⟨gk, 1, none⟩ = some (.string b1)) (hg2 : w.cell? ⟨gw, 0, none⟩ = some (.int .i64 wk)) (hg3 : w.cell? ⟨gr, 0, none⟩ = some (.int .i64 rev)) (hg4 : w.cell? ⟨gc, 0, none⟩ = some (.int .i64 cap)) (h : impl_Claim.ch k l0 ok b0 b1 wk rev cap = some (r, c)) :
 Calls Tryd.prog 76 #[.agg #[.slice A0 l0.length c0], .bool ok, .func (.func 92) #[] #[.pointer (some ⟨gk, 0, none⟩), .pointer (some ⟨gw, 0, none⟩), .pointer (some ⟨gr, 0, none⟩), .pointer (some ⟨gc, 0, none⟩)]] w fun e w' => ∃ v : Value, e = .returned (.tuple #[.agg #[v], .int .i64 c]) ∧ Kd.S k32 32 w' w.heap.size (fun _ => True) v r ∧ Below w.heap.size w w' := by
 have hu1 := Tryd.underlying101
 have hu2 := Tryd.underlying29
 have hu3 := Tryd.underlying32
 have hu4 := Tryd.underlying36
 have hu5 := Tryd.underlying97
 unfold impl_Claim.ch at h
 have HG := Aside0.mk hG
 have HR0 := Aside0.mk hr0
 have HC0 := Aside0.mk hc0
 have BX0 := Aside0.mk (impl_Claim.Bx.init w A0 l0.length c0)
 have HK_hg0 := Aside0.mk hg0
 have HK_hg1 := Aside0.mk hg1
 have HK_hg2 := Aside0.mk hg2
 have HK_hg3 := Aside0.mk hg3
 have HK_hg4 := Aside0.mk hg4
 clear hG hr0 hc0 hg0 hg1 hg2 hg3 hg4
 cases ok with
 | false =>
  rw [if_neg (by decide)] at h
  simp only [Option.some.injEq, Prod.mk.injEq] at h
  obtain ⟨rfl, rfl⟩ := h
  go_enter Tryd.func76, Tryd.ntmps76
  go_wp2
  refine bodyPost_ret (results_ct rfl _ _ (w.heap.size + 1) 36 #[.slice none 0 0] (0, 0) _ rfl BX0.out.h1 Tryd.underlying36 rfl (by kernel_rfl)) rfl ?_
  exact ⟨.slice none 0 0, rfl, Kd.S_nil _ _ _ _ _, BX0.out.bel⟩
 | true =>
  rw [if_pos rfl] at h
  obtain ⟨t, ht, h⟩ := Option.bind_eq_some_iff.mp h
  have H1 := Aside0.mk ht
  clear ht
  cases t with
  | false =>
   rw [if_neg (by decide)] at h
   simp only [Option.some.injEq, Prod.mk.injEq] at h
   obtain ⟨rfl, rfl⟩ := h
   go_enter Tryd.func76, Tryd.ntmps76
   go_wp2_with (go_at_call 44; refine (impl_ValidTable.calls k A0 c0 l0 _ _ (GRes.below HG.out BX0.out.bel) (Kd.C_below HR0.out BX0.out.bel) HC0.out H1.out).mono ?_; rintro e w6 ⟨rfl, hb6⟩; have BX6 := Aside0.mk (BX0.out.keep hb6); have hz : w6.cell? ⟨w.heap.size + 1, 0, none⟩ = some (.slice none 0 0) := (blk_cell BX6.out.h1 0).trans rfl; have hf := blk_frozen BX6.out.h1 0; clear hb6)
   refine bodyPost_ret (results_ct rfl _ _ (w.heap.size + 1) 36 #[.slice none 0 0] (0, 0) _ rfl (blk_put BX6.out.h1 0 _ rfl) Tryd.underlying36 rfl (by kernel_rfl)) rfl ?_
   exact ⟨.slice none 0 0, rfl, Kd.S_nil _ _ _ _ _, below_set BX6.out.bel (by show w.heap.size ≤ w.heap.size + 1; omega)⟩
  | true =>
   rw [if_pos rfl] at h
   obtain ⟨L, hL, h⟩ := Option.bind_eq_some_iff.mp h
   obtain ⟨⟨c_, L'⟩, hp, h⟩ := Option.bind_eq_some_iff.mp h
   obtain ⟨r_, hr_, h⟩ := Option.bind_eq_some_iff.mp h
   simp only [Option.some.injEq, Prod.mk.injEq] at h
   obtain ⟨rfl, rfl⟩ := h
   have HL := Aside0.mk hL
   have HP := Aside0.mk hp
   have HT := Aside0.mk hr_
   clear hL hp hr_
   go_enter Tryd.func76, Tryd.ntmps76
   go_wp2_with (first | (go_at_call 44; refine (impl_ValidTable.calls k A0 c0 l0 _ _ (GRes.below HG.out BX0.out.bel) (Kd.C_below HR0.out BX0.out.bel) HC0.out H1.out).mono ?_; rintro e w6 ⟨rfl, hb6⟩; have BX6 := Aside0.mk (BX0.out.keep hb6); have ht6 : w6.cell? ⟨w.heap.size, 0, none⟩ = some (.slice A0 l0.length c0) := (blk_cell BX6.out.h0 0).trans rfl; clear hb6) | (go_at_call 58; refine (impl_Table_rows.rows A0 c0 l0 L _ (Kd.C_below HR0.out BX6.out.bel) HL.out).mono ?_; rintro e w7 ⟨g, rfl, hR⟩; have HR7 := Aside0.mk hR; have HB7 := Aside0.mk (below_step BX6.out.bel hR.bel); clear hR ht6) | (go_at_call 92; refine (impl_Claim.clo k g L b0 b1 wk rev cap c_ L' gk gw gr gc w6 _ HR7.out (pw_cell_below HB7.out HK_hg0.out) (pw_cell_below HB7.out HK_hg1.out) (pw_cell_below HB7.out HK_hg2.out) (pw_cell_below HB7.out HK_hg3.out) (pw_cell_below HB7.out HK_hg4.out) HP.out).mono ?_; rintro e w8 ⟨rfl, hR⟩; have HR8 := Aside0.mk hR; clear hR) | (go_at_call 122; obtain ⟨AR, cR, hOr⟩ := HR8.out.ord; refine (impl_rows_table.table g AR cR L' r_ _ hOr HT.out).mono ?_; rintro e w9 ⟨v, rfl, hs, hb9⟩; obtain ⟨A9, c9, rfl⟩ := Kd.S_slice hs; have HS9 := Aside0.mk hs; have BX9 := Aside0.mk ((BX6.out.keep HR8.out.bel).keep hb9); have hz : w9.cell? ⟨w.heap.size + 1, 0, none⟩ = some (.slice none 0 0) := (blk_cell BX9.out.h1 0).trans rfl; have hf := blk_frozen BX9.out.h1 0; have HB8 := Aside0.mk (below_step BX6.out.bel HR8.out.bel); clear hs hb9 hOr))
   refine bodyPost_ret (results_ct rfl _ _ (w.heap.size + 1) 36 #[.slice A9 r_.length c9] (0, 0) _ rfl (blk_put BX9.out.h1 0 _ rfl) Tryd.underlying36 rfl (by kernel_rfl)) rfl ?_
   exact ⟨.slice A9 r_.length c9, rfl, Kd.S_set (Kd.S_lower HS9.out (below_size HB8.out)) BX9.out.h1 (by decide) 0 _, below_set BX9.out.bel (by show w.heap.size ≤ w.heap.size + 1; omega)⟩
structure impl_Claim.Bs (w0 W : World) (A0 : Option Addr) (n0 c0 : Nat) (b0 : Int) (b1 : ByteArray) (wk rev cap : Int) : Prop where
 h0 : W.heap[w0.heap.size]? = some (.cells #[.slice A0 n0 c0] 36 (0, 0))
 h1 : W.heap[w0.heap.size + 1]? = some (.cells #[.int .i64 b0, .string b1] 29 (0, 0))
 h2 : W.heap[w0.heap.size + 1 + 1]? = some (.cells #[.int .i64 wk] 3 (0, 0))
 h3 : W.heap[w0.heap.size + 1 + 1 + 1]? = some (.cells #[.int .i64 rev] 3 (0, 0))
 h4 : W.heap[w0.heap.size + 1 + 1 + 1 + 1]? = some (.cells #[.int .i64 cap] 3 (0, 0))
 h5 : W.heap[w0.heap.size + 1 + 1 + 1 + 1 + 1]? = some (.cells #[.slice none 0 0] 36 (0, 0))
 bel : Below w0.heap.size w0 W
theorem impl_Claim.Bs.keep {w0 W W1 : World} {A0 : Option Addr} {n0 c0 : Nat} {b0 : Int} {b1 : ByteArray} {wk rev cap : Int} (h : impl_Claim.Bs w0 W A0 n0 c0 b0 b1 wk rev cap) (b : Below W.heap.size W W1) : impl_Claim.Bs w0 W1 A0 n0 c0 b0 b1 wk rev cap :=
 ⟨blk_below h.h0 b, blk_below h.h1 b, blk_below h.h2 b, blk_below h.h3 b, blk_below h.h4 b, blk_below h.h5 b, below_step h.bel b⟩
theorem impl_Claim.Bs.init (w0 : World) (A0 : Option Addr) (n0 c0 : Nat) (b0 : Int) (b1 : ByteArray) (wk rev cap : Int) : impl_Claim.Bs w0 ((((((w0.alloc (.cells #[.slice A0 n0 c0] 36)).alloc (.cells #[.int .i64 b0, .string b1] 29)).alloc (.cells #[.int .i64 wk] 3)).alloc (.cells #[.int .i64 rev] 3)).alloc (.cells #[.int .i64 cap] 3)).alloc (.cells #[.slice none 0 0] 36)) A0 n0 c0 b0 b1 wk rev cap :=
 ⟨blk_alloc (blk_alloc (blk_alloc (blk_alloc (blk_alloc (blk_new w0 _) _) _) _) _) _, blk_alloc (blk_alloc (blk_alloc (blk_alloc (blk_new_at (by simp)) _) _) _) _, blk_alloc (blk_alloc (blk_alloc (blk_new_at (by simp)) _) _) _, blk_alloc (blk_alloc (blk_new_at (by simp)) _) _, blk_alloc (blk_new_at (by simp)) _, blk_new_at (by simp), by repeat (first | exact Below.refl _ _ | apply below_alloc)⟩
def impl_Claim.f (k : Nat) (l0 : List S32) (b0 : Int) (b1 : ByteArray) (wk rev cap : Int) : Option (List S32 × Int) := (impl_Key_valid.f b0 b1).bind fun t1 => (impl_workerOk.f wk).bind fun t2 => impl_Claim.ch k l0 ((((t1 && t2) && decide (1 ≤ rev)) && decide (1 ≤ cap)) && decide (cap ≤ 4096)) b0 b1 wk rev cap
set_option maxHeartbeats 16000000 in
set_option maxRecDepth 100000 in
theorem impl_Claim.calls (k : Nat) (A0_0 : Option Addr) (c0_0 : Nat) (l0_0 : List S32) (a1_0 : Int) (a1_1 : ByteArray) (a2 a3 a4 : Int) (r : List S32) (c : Int) (w : World) (hG : GRes w) (hr0_0 : Kd.C k32 w A0_0 l0_0.length l0_0) (hc0_0 : l0_0.length ≤ c0_0) (h : impl_Claim.f k l0_0 a1_0 a1_1 a2 a3 a4 = some (r, c)) :
 Calls Tryd.prog 41 #[.agg #[.slice A0_0 l0_0.length c0_0], .agg #[.int .i64 a1_0, .string a1_1], .int .i64 a2, .int .i64 a3, .int .i64 a4] w fun e w' => ∃ v : Value, e = .returned (.tuple #[.agg #[v], .int .i64 c]) ∧ Kd.S k32 32 w' w.heap.size (fun _ => True) v r ∧ Below w.heap.size w w' := by
 have hu1 := Tryd.underlying101
 have hu2 := Tryd.underlying29
 have hu3 := Tryd.underlying32
 have hu4 := Tryd.underlying36
 have hu5 := Tryd.underlying97
 have hmf : ∀ (fn : Fn) (first cap : Array Value) (w : World), (Instr.makeFunc fn first cap).run Tryd.prog w = .ok (.func fn first cap) w := fun _ _ _ _ => rfl
 unfold impl_Claim.f at h
 obtain ⟨t1, ht1, h⟩ := Option.bind_eq_some_iff.mp h
 obtain ⟨t2, ht2, h⟩ := Option.bind_eq_some_iff.mp h
 have HG := Aside0.mk hG
 have HR0 := Aside0.mk hr0_0
 have HC0 := Aside0.mk hc0_0
 have H1 := Aside0.mk ht1
 have H2 := Aside0.mk ht2
 have BX0 := Aside0.mk (impl_Claim.Bs.init w A0_0 l0_0.length c0_0 a1_0 a1_1 a2 a3 a4)
 clear hG hr0_0 hc0_0 ht1 ht2
 cases t1 with
 | false =>
  have H := Aside0.mk (show impl_Claim.ch k l0_0 false a1_0 a1_1 a2 a3 a4 = some (r, c) from by simpa using h)
  clear h
  go_enter Tryd.func41, Tryd.ntmps41
  go_wp2_with (first | (go_at_call 70; refine (impl_Key_valid.calls a1_0 a1_1 _ _ (GRes.below HG.out BX0.out.bel) H1.out).mono ?_; rintro e w6 ⟨rfl, hb⟩; have BX6 := Aside0.mk (BX0.out.keep hb); have q0 : w6.cell? ⟨w.heap.size, 0, none⟩ = some (.slice A0_0 l0_0.length c0_0) := (blk_cell BX6.out.h0 0).trans rfl; have q2 : w6.cell? ⟨w.heap.size + 1 + 1, 0, none⟩ = some (.int .i64 a2) := (blk_cell BX6.out.h2 0).trans rfl; have q3 : w6.cell? ⟨w.heap.size + 1 + 1 + 1, 0, none⟩ = some (.int .i64 a3) := (blk_cell BX6.out.h3 0).trans rfl; have q4 : w6.cell? ⟨w.heap.size + 1 + 1 + 1 + 1, 0, none⟩ = some (.int .i64 a4) := (blk_cell BX6.out.h4 0).trans rfl; clear hb) | (go_at_call 76; refine (impl_Claim.changed k A0_0 c0_0 l0_0 _ a1_0 a1_1 a2 a3 a4 r c (w.heap.size + 1) (w.heap.size + 1 + 1) (w.heap.size + 1 + 1 + 1) (w.heap.size + 1 + 1 + 1 + 1) _ (GRes.below HG.out BX6.out.bel) (Kd.C_below HR0.out BX6.out.bel) HC0.out ((blk_cell BX6.out.h1 0).trans rfl) ((blk_cell BX6.out.h1 1).trans rfl) ((blk_cell BX6.out.h2 0).trans rfl) ((blk_cell BX6.out.h3 0).trans rfl) ((blk_cell BX6.out.h4 0).trans rfl) H.out).mono ?_; rintro e w9 ⟨v, rfl, hs, hb⟩; obtain ⟨A9, c9, rfl⟩ := Kd.S_slice hs; have HS9 := Aside0.mk (Kd.S_lower hs (below_size BX6.out.bel)); have BX9 := Aside0.mk (BX6.out.keep hb); have hz : w9.cell? ⟨w.heap.size + 1 + 1 + 1 + 1 + 1, 0, none⟩ = some (.slice none 0 0) := (blk_cell BX9.out.h5 0).trans rfl; have hf := blk_frozen BX9.out.h5 0; clear hs hb q0 q2 q3 q4))
  refine bodyPost_ret (results_ct rfl _ _ (w.heap.size + 1 + 1 + 1 + 1 + 1) 36 #[.slice A9 r.length c9] (0, 0) _ rfl (blk_put BX9.out.h5 0 _ rfl) Tryd.underlying36 rfl (by kernel_rfl)) rfl ?_
  exact ⟨.slice A9 r.length c9, rfl, Kd.S_set HS9.out BX9.out.h5 (by decide) 0 _, below_set BX9.out.bel (by show w.heap.size ≤ w.heap.size + 1 + 1 + 1 + 1 + 1; omega)⟩
 | true =>
  cases t2 with
  | false =>
   have H := Aside0.mk (show impl_Claim.ch k l0_0 false a1_0 a1_1 a2 a3 a4 = some (r, c) from by simpa using h)
   clear h
   go_enter Tryd.func41, Tryd.ntmps41
   go_wp2_with (first | (go_at_call 70; refine (impl_Key_valid.calls a1_0 a1_1 _ _ (GRes.below HG.out BX0.out.bel) H1.out).mono ?_; rintro e w6 ⟨rfl, hb⟩; have BX6 := Aside0.mk (BX0.out.keep hb); have q0 : w6.cell? ⟨w.heap.size, 0, none⟩ = some (.slice A0_0 l0_0.length c0_0) := (blk_cell BX6.out.h0 0).trans rfl; have q2 : w6.cell? ⟨w.heap.size + 1 + 1, 0, none⟩ = some (.int .i64 a2) := (blk_cell BX6.out.h2 0).trans rfl; have q3 : w6.cell? ⟨w.heap.size + 1 + 1 + 1, 0, none⟩ = some (.int .i64 a3) := (blk_cell BX6.out.h3 0).trans rfl; have q4 : w6.cell? ⟨w.heap.size + 1 + 1 + 1 + 1, 0, none⟩ = some (.int .i64 a4) := (blk_cell BX6.out.h4 0).trans rfl; clear hb) | (go_at_call 71; refine (impl_workerOk.calls a2 _ _ H2.out).mono ?_; rintro e w7 ⟨rfl, hd⟩; have BX7 := Aside0.mk (show impl_Claim.Bs w w7 A0_0 l0_0.length c0_0 a1_0 a1_1 a2 a3 a4 by obtain ⟨nd, rfl⟩ := hd; exact BX6.out.keep (pw_below_drewN (Below.refl _ _) nd)); clear q0 q2 q3 q4; have q0 : w7.cell? ⟨w.heap.size, 0, none⟩ = some (.slice A0_0 l0_0.length c0_0) := (blk_cell BX7.out.h0 0).trans rfl; have q2 : w7.cell? ⟨w.heap.size + 1 + 1, 0, none⟩ = some (.int .i64 a2) := (blk_cell BX7.out.h2 0).trans rfl; have q3 : w7.cell? ⟨w.heap.size + 1 + 1 + 1, 0, none⟩ = some (.int .i64 a3) := (blk_cell BX7.out.h3 0).trans rfl; have q4 : w7.cell? ⟨w.heap.size + 1 + 1 + 1 + 1, 0, none⟩ = some (.int .i64 a4) := (blk_cell BX7.out.h4 0).trans rfl; clear hd) | (go_at_call 76; refine (impl_Claim.changed k A0_0 c0_0 l0_0 _ a1_0 a1_1 a2 a3 a4 r c (w.heap.size + 1) (w.heap.size + 1 + 1) (w.heap.size + 1 + 1 + 1) (w.heap.size + 1 + 1 + 1 + 1) _ (GRes.below HG.out BX7.out.bel) (Kd.C_below HR0.out BX7.out.bel) HC0.out ((blk_cell BX7.out.h1 0).trans rfl) ((blk_cell BX7.out.h1 1).trans rfl) ((blk_cell BX7.out.h2 0).trans rfl) ((blk_cell BX7.out.h3 0).trans rfl) ((blk_cell BX7.out.h4 0).trans rfl) H.out).mono ?_; rintro e w9 ⟨v, rfl, hs, hb⟩; obtain ⟨A9, c9, rfl⟩ := Kd.S_slice hs; have HS9 := Aside0.mk (Kd.S_lower hs (below_size BX7.out.bel)); have BX9 := Aside0.mk (BX7.out.keep hb); have hz : w9.cell? ⟨w.heap.size + 1 + 1 + 1 + 1 + 1, 0, none⟩ = some (.slice none 0 0) := (blk_cell BX9.out.h5 0).trans rfl; have hf := blk_frozen BX9.out.h5 0; clear hs hb q0 q2 q3 q4))
   refine bodyPost_ret (results_ct rfl _ _ (w.heap.size + 1 + 1 + 1 + 1 + 1) 36 #[.slice A9 r.length c9] (0, 0) _ rfl (blk_put BX9.out.h5 0 _ rfl) Tryd.underlying36 rfl (by kernel_rfl)) rfl ?_
   exact ⟨.slice A9 r.length c9, rfl, Kd.S_set HS9.out BX9.out.h5 (by decide) 0 _, below_set BX9.out.bel (by show w.heap.size ≤ w.heap.size + 1 + 1 + 1 + 1 + 1; omega)⟩
  | true =>
   by_cases c3 : 1 ≤ a3
   case neg =>
    have c3b : decide (1 ≤ a3) = false := decide_eq_false c3
    rw [c3b] at h
    clear c3
    have H := Aside0.mk (show impl_Claim.ch k l0_0 false a1_0 a1_1 a2 a3 a4 = some (r, c) from by simpa using h)
    clear h
    go_enter Tryd.func41, Tryd.ntmps41
    go_wp2_with (first | (go_at_call 70; refine (impl_Key_valid.calls a1_0 a1_1 _ _ (GRes.below HG.out BX0.out.bel) H1.out).mono ?_; rintro e w6 ⟨rfl, hb⟩; have BX6 := Aside0.mk (BX0.out.keep hb); have q0 : w6.cell? ⟨w.heap.size, 0, none⟩ = some (.slice A0_0 l0_0.length c0_0) := (blk_cell BX6.out.h0 0).trans rfl; have q2 : w6.cell? ⟨w.heap.size + 1 + 1, 0, none⟩ = some (.int .i64 a2) := (blk_cell BX6.out.h2 0).trans rfl; have q3 : w6.cell? ⟨w.heap.size + 1 + 1 + 1, 0, none⟩ = some (.int .i64 a3) := (blk_cell BX6.out.h3 0).trans rfl; have q4 : w6.cell? ⟨w.heap.size + 1 + 1 + 1 + 1, 0, none⟩ = some (.int .i64 a4) := (blk_cell BX6.out.h4 0).trans rfl; clear hb) | (go_at_call 71; refine (impl_workerOk.calls a2 _ _ H2.out).mono ?_; rintro e w7 ⟨rfl, hd⟩; have BX7 := Aside0.mk (show impl_Claim.Bs w w7 A0_0 l0_0.length c0_0 a1_0 a1_1 a2 a3 a4 by obtain ⟨nd, rfl⟩ := hd; exact BX6.out.keep (pw_below_drewN (Below.refl _ _) nd)); clear q0 q2 q3 q4; have q0 : w7.cell? ⟨w.heap.size, 0, none⟩ = some (.slice A0_0 l0_0.length c0_0) := (blk_cell BX7.out.h0 0).trans rfl; have q2 : w7.cell? ⟨w.heap.size + 1 + 1, 0, none⟩ = some (.int .i64 a2) := (blk_cell BX7.out.h2 0).trans rfl; have q3 : w7.cell? ⟨w.heap.size + 1 + 1 + 1, 0, none⟩ = some (.int .i64 a3) := (blk_cell BX7.out.h3 0).trans rfl; have q4 : w7.cell? ⟨w.heap.size + 1 + 1 + 1 + 1, 0, none⟩ = some (.int .i64 a4) := (blk_cell BX7.out.h4 0).trans rfl; clear hd) | (go_at_call 76; refine (impl_Claim.changed k A0_0 c0_0 l0_0 _ a1_0 a1_1 a2 a3 a4 r c (w.heap.size + 1) (w.heap.size + 1 + 1) (w.heap.size + 1 + 1 + 1) (w.heap.size + 1 + 1 + 1 + 1) _ (GRes.below HG.out BX7.out.bel) (Kd.C_below HR0.out BX7.out.bel) HC0.out ((blk_cell BX7.out.h1 0).trans rfl) ((blk_cell BX7.out.h1 1).trans rfl) ((blk_cell BX7.out.h2 0).trans rfl) ((blk_cell BX7.out.h3 0).trans rfl) ((blk_cell BX7.out.h4 0).trans rfl) H.out).mono ?_; rintro e w9 ⟨v, rfl, hs, hb⟩; obtain ⟨A9, c9, rfl⟩ := Kd.S_slice hs; have HS9 := Aside0.mk (Kd.S_lower hs (below_size BX7.out.bel)); have BX9 := Aside0.mk (BX7.out.keep hb); have hz : w9.cell? ⟨w.heap.size + 1 + 1 + 1 + 1 + 1, 0, none⟩ = some (.slice none 0 0) := (blk_cell BX9.out.h5 0).trans rfl; have hf := blk_frozen BX9.out.h5 0; clear hs hb q0 q2 q3 q4))
    refine bodyPost_ret (results_ct rfl _ _ (w.heap.size + 1 + 1 + 1 + 1 + 1) 36 #[.slice A9 r.length c9] (0, 0) _ rfl (blk_put BX9.out.h5 0 _ rfl) Tryd.underlying36 rfl (by kernel_rfl)) rfl ?_
    exact ⟨.slice A9 r.length c9, rfl, Kd.S_set HS9.out BX9.out.h5 (by decide) 0 _, below_set BX9.out.bel (by show w.heap.size ≤ w.heap.size + 1 + 1 + 1 + 1 + 1; omega)⟩
   have c3b : decide (1 ≤ a3) = true := decide_eq_true c3
   rw [c3b] at h
   clear c3
   by_cases c4 : 1 ≤ a4
   case neg =>
    have c4b : decide (1 ≤ a4) = false := decide_eq_false c4
    rw [c4b] at h
    clear c4
    have H := Aside0.mk (show impl_Claim.ch k l0_0 false a1_0 a1_1 a2 a3 a4 = some (r, c) from by simpa using h)
    clear h
    go_enter Tryd.func41, Tryd.ntmps41
    go_wp2_with (first | (go_at_call 70; refine (impl_Key_valid.calls a1_0 a1_1 _ _ (GRes.below HG.out BX0.out.bel) H1.out).mono ?_; rintro e w6 ⟨rfl, hb⟩; have BX6 := Aside0.mk (BX0.out.keep hb); have q0 : w6.cell? ⟨w.heap.size, 0, none⟩ = some (.slice A0_0 l0_0.length c0_0) := (blk_cell BX6.out.h0 0).trans rfl; have q2 : w6.cell? ⟨w.heap.size + 1 + 1, 0, none⟩ = some (.int .i64 a2) := (blk_cell BX6.out.h2 0).trans rfl; have q3 : w6.cell? ⟨w.heap.size + 1 + 1 + 1, 0, none⟩ = some (.int .i64 a3) := (blk_cell BX6.out.h3 0).trans rfl; have q4 : w6.cell? ⟨w.heap.size + 1 + 1 + 1 + 1, 0, none⟩ = some (.int .i64 a4) := (blk_cell BX6.out.h4 0).trans rfl; clear hb) | (go_at_call 71; refine (impl_workerOk.calls a2 _ _ H2.out).mono ?_; rintro e w7 ⟨rfl, hd⟩; have BX7 := Aside0.mk (show impl_Claim.Bs w w7 A0_0 l0_0.length c0_0 a1_0 a1_1 a2 a3 a4 by obtain ⟨nd, rfl⟩ := hd; exact BX6.out.keep (pw_below_drewN (Below.refl _ _) nd)); clear q0 q2 q3 q4; have q0 : w7.cell? ⟨w.heap.size, 0, none⟩ = some (.slice A0_0 l0_0.length c0_0) := (blk_cell BX7.out.h0 0).trans rfl; have q2 : w7.cell? ⟨w.heap.size + 1 + 1, 0, none⟩ = some (.int .i64 a2) := (blk_cell BX7.out.h2 0).trans rfl; have q3 : w7.cell? ⟨w.heap.size + 1 + 1 + 1, 0, none⟩ = some (.int .i64 a3) := (blk_cell BX7.out.h3 0).trans rfl; have q4 : w7.cell? ⟨w.heap.size + 1 + 1 + 1 + 1, 0, none⟩ = some (.int .i64 a4) := (blk_cell BX7.out.h4 0).trans rfl; clear hd) | (go_at_call 76; refine (impl_Claim.changed k A0_0 c0_0 l0_0 _ a1_0 a1_1 a2 a3 a4 r c (w.heap.size + 1) (w.heap.size + 1 + 1) (w.heap.size + 1 + 1 + 1) (w.heap.size + 1 + 1 + 1 + 1) _ (GRes.below HG.out BX7.out.bel) (Kd.C_below HR0.out BX7.out.bel) HC0.out ((blk_cell BX7.out.h1 0).trans rfl) ((blk_cell BX7.out.h1 1).trans rfl) ((blk_cell BX7.out.h2 0).trans rfl) ((blk_cell BX7.out.h3 0).trans rfl) ((blk_cell BX7.out.h4 0).trans rfl) H.out).mono ?_; rintro e w9 ⟨v, rfl, hs, hb⟩; obtain ⟨A9, c9, rfl⟩ := Kd.S_slice hs; have HS9 := Aside0.mk (Kd.S_lower hs (below_size BX7.out.bel)); have BX9 := Aside0.mk (BX7.out.keep hb); have hz : w9.cell? ⟨w.heap.size + 1 + 1 + 1 + 1 + 1, 0, none⟩ = some (.slice none 0 0) := (blk_cell BX9.out.h5 0).trans rfl; have hf := blk_frozen BX9.out.h5 0; clear hs hb q0 q2 q3 q4))
    refine bodyPost_ret (results_ct rfl _ _ (w.heap.size + 1 + 1 + 1 + 1 + 1) 36 #[.slice A9 r.length c9] (0, 0) _ rfl (blk_put BX9.out.h5 0 _ rfl) Tryd.underlying36 rfl (by kernel_rfl)) rfl ?_
    exact ⟨.slice A9 r.length c9, rfl, Kd.S_set HS9.out BX9.out.h5 (by decide) 0 _, below_set BX9.out.bel (by show w.heap.size ≤ w.heap.size + 1 + 1 + 1 + 1 + 1; omega)⟩
   have c4b : decide (1 ≤ a4) = true := decide_eq_true c4
   rw [c4b] at h
   clear c4
   by_cases c5 : a4 ≤ 4096
   case neg =>
    have c5b : decide (a4 ≤ 4096) = false := decide_eq_false c5
    rw [c5b] at h
    clear c5
    have H := Aside0.mk (show impl_Claim.ch k l0_0 false a1_0 a1_1 a2 a3 a4 = some (r, c) from by simpa using h)
    clear h
    go_enter Tryd.func41, Tryd.ntmps41
    go_wp2_with (first | (go_at_call 70; refine (impl_Key_valid.calls a1_0 a1_1 _ _ (GRes.below HG.out BX0.out.bel) H1.out).mono ?_; rintro e w6 ⟨rfl, hb⟩; have BX6 := Aside0.mk (BX0.out.keep hb); have q0 : w6.cell? ⟨w.heap.size, 0, none⟩ = some (.slice A0_0 l0_0.length c0_0) := (blk_cell BX6.out.h0 0).trans rfl; have q2 : w6.cell? ⟨w.heap.size + 1 + 1, 0, none⟩ = some (.int .i64 a2) := (blk_cell BX6.out.h2 0).trans rfl; have q3 : w6.cell? ⟨w.heap.size + 1 + 1 + 1, 0, none⟩ = some (.int .i64 a3) := (blk_cell BX6.out.h3 0).trans rfl; have q4 : w6.cell? ⟨w.heap.size + 1 + 1 + 1 + 1, 0, none⟩ = some (.int .i64 a4) := (blk_cell BX6.out.h4 0).trans rfl; clear hb) | (go_at_call 71; refine (impl_workerOk.calls a2 _ _ H2.out).mono ?_; rintro e w7 ⟨rfl, hd⟩; have BX7 := Aside0.mk (show impl_Claim.Bs w w7 A0_0 l0_0.length c0_0 a1_0 a1_1 a2 a3 a4 by obtain ⟨nd, rfl⟩ := hd; exact BX6.out.keep (pw_below_drewN (Below.refl _ _) nd)); clear q0 q2 q3 q4; have q0 : w7.cell? ⟨w.heap.size, 0, none⟩ = some (.slice A0_0 l0_0.length c0_0) := (blk_cell BX7.out.h0 0).trans rfl; have q2 : w7.cell? ⟨w.heap.size + 1 + 1, 0, none⟩ = some (.int .i64 a2) := (blk_cell BX7.out.h2 0).trans rfl; have q3 : w7.cell? ⟨w.heap.size + 1 + 1 + 1, 0, none⟩ = some (.int .i64 a3) := (blk_cell BX7.out.h3 0).trans rfl; have q4 : w7.cell? ⟨w.heap.size + 1 + 1 + 1 + 1, 0, none⟩ = some (.int .i64 a4) := (blk_cell BX7.out.h4 0).trans rfl; clear hd) | (go_at_call 76; refine (impl_Claim.changed k A0_0 c0_0 l0_0 _ a1_0 a1_1 a2 a3 a4 r c (w.heap.size + 1) (w.heap.size + 1 + 1) (w.heap.size + 1 + 1 + 1) (w.heap.size + 1 + 1 + 1 + 1) _ (GRes.below HG.out BX7.out.bel) (Kd.C_below HR0.out BX7.out.bel) HC0.out ((blk_cell BX7.out.h1 0).trans rfl) ((blk_cell BX7.out.h1 1).trans rfl) ((blk_cell BX7.out.h2 0).trans rfl) ((blk_cell BX7.out.h3 0).trans rfl) ((blk_cell BX7.out.h4 0).trans rfl) H.out).mono ?_; rintro e w9 ⟨v, rfl, hs, hb⟩; obtain ⟨A9, c9, rfl⟩ := Kd.S_slice hs; have HS9 := Aside0.mk (Kd.S_lower hs (below_size BX7.out.bel)); have BX9 := Aside0.mk (BX7.out.keep hb); have hz : w9.cell? ⟨w.heap.size + 1 + 1 + 1 + 1 + 1, 0, none⟩ = some (.slice none 0 0) := (blk_cell BX9.out.h5 0).trans rfl; have hf := blk_frozen BX9.out.h5 0; clear hs hb q0 q2 q3 q4))
    refine bodyPost_ret (results_ct rfl _ _ (w.heap.size + 1 + 1 + 1 + 1 + 1) 36 #[.slice A9 r.length c9] (0, 0) _ rfl (blk_put BX9.out.h5 0 _ rfl) Tryd.underlying36 rfl (by kernel_rfl)) rfl ?_
    exact ⟨.slice A9 r.length c9, rfl, Kd.S_set HS9.out BX9.out.h5 (by decide) 0 _, below_set BX9.out.bel (by show w.heap.size ≤ w.heap.size + 1 + 1 + 1 + 1 + 1; omega)⟩
   have c5b : decide (a4 ≤ 4096) = true := decide_eq_true c5
   rw [c5b] at h
   clear c5
   have H := Aside0.mk (show impl_Claim.ch k l0_0 true a1_0 a1_1 a2 a3 a4 = some (r, c) from by simpa using h)
   clear h
   go_enter Tryd.func41, Tryd.ntmps41
   go_wp2_with (first | (go_at_call 70; refine (impl_Key_valid.calls a1_0 a1_1 _ _ (GRes.below HG.out BX0.out.bel) H1.out).mono ?_; rintro e w6 ⟨rfl, hb⟩; have BX6 := Aside0.mk (BX0.out.keep hb); have q0 : w6.cell? ⟨w.heap.size, 0, none⟩ = some (.slice A0_0 l0_0.length c0_0) := (blk_cell BX6.out.h0 0).trans rfl; have q2 : w6.cell? ⟨w.heap.size + 1 + 1, 0, none⟩ = some (.int .i64 a2) := (blk_cell BX6.out.h2 0).trans rfl; have q3 : w6.cell? ⟨w.heap.size + 1 + 1 + 1, 0, none⟩ = some (.int .i64 a3) := (blk_cell BX6.out.h3 0).trans rfl; have q4 : w6.cell? ⟨w.heap.size + 1 + 1 + 1 + 1, 0, none⟩ = some (.int .i64 a4) := (blk_cell BX6.out.h4 0).trans rfl; clear hb) | (go_at_call 71; refine (impl_workerOk.calls a2 _ _ H2.out).mono ?_; rintro e w7 ⟨rfl, hd⟩; have BX7 := Aside0.mk (show impl_Claim.Bs w w7 A0_0 l0_0.length c0_0 a1_0 a1_1 a2 a3 a4 by obtain ⟨nd, rfl⟩ := hd; exact BX6.out.keep (pw_below_drewN (Below.refl _ _) nd)); clear q0 q2 q3 q4; have q0 : w7.cell? ⟨w.heap.size, 0, none⟩ = some (.slice A0_0 l0_0.length c0_0) := (blk_cell BX7.out.h0 0).trans rfl; have q2 : w7.cell? ⟨w.heap.size + 1 + 1, 0, none⟩ = some (.int .i64 a2) := (blk_cell BX7.out.h2 0).trans rfl; have q3 : w7.cell? ⟨w.heap.size + 1 + 1 + 1, 0, none⟩ = some (.int .i64 a3) := (blk_cell BX7.out.h3 0).trans rfl; have q4 : w7.cell? ⟨w.heap.size + 1 + 1 + 1 + 1, 0, none⟩ = some (.int .i64 a4) := (blk_cell BX7.out.h4 0).trans rfl; clear hd) | (go_at_call 76; refine (impl_Claim.changed k A0_0 c0_0 l0_0 _ a1_0 a1_1 a2 a3 a4 r c (w.heap.size + 1) (w.heap.size + 1 + 1) (w.heap.size + 1 + 1 + 1) (w.heap.size + 1 + 1 + 1 + 1) _ (GRes.below HG.out BX7.out.bel) (Kd.C_below HR0.out BX7.out.bel) HC0.out ((blk_cell BX7.out.h1 0).trans rfl) ((blk_cell BX7.out.h1 1).trans rfl) ((blk_cell BX7.out.h2 0).trans rfl) ((blk_cell BX7.out.h3 0).trans rfl) ((blk_cell BX7.out.h4 0).trans rfl) H.out).mono ?_; rintro e w9 ⟨v, rfl, hs, hb⟩; obtain ⟨A9, c9, rfl⟩ := Kd.S_slice hs; have HS9 := Aside0.mk (Kd.S_lower hs (below_size BX7.out.bel)); have BX9 := Aside0.mk (BX7.out.keep hb); have hz : w9.cell? ⟨w.heap.size + 1 + 1 + 1 + 1 + 1, 0, none⟩ = some (.slice none 0 0) := (blk_cell BX9.out.h5 0).trans rfl; have hf := blk_frozen BX9.out.h5 0; clear hs hb q0 q2 q3 q4))
   refine bodyPost_ret (results_ct rfl _ _ (w.heap.size + 1 + 1 + 1 + 1 + 1) 36 #[.slice A9 r.length c9] (0, 0) _ rfl (blk_put BX9.out.h5 0 _ rfl) Tryd.underlying36 rfl (by kernel_rfl)) rfl ?_
   exact ⟨.slice A9 r.length c9, rfl, Kd.S_set HS9.out BX9.out.h5 (by decide) 0 _, below_set BX9.out.bel (by show w.heap.size ≤ w.heap.size + 1 + 1 + 1 + 1 + 1; omega)⟩
end Go.Proofs.YtnbohlcibgfjaaaDoor.Gp
end
