/- A part of the proof of RowFnExactRelease: each text's theorems that it needs, packed by shake.py, a program of this work; Lean checks them. -/
import Derived.Test.YtnbohlcibgfjaaaDoorRel3
import Derived.Test.YtnbohlcibgfjaaaDoorRel14
import Derived.Test.YtnbohlcibgfjaaaDoorRel15
import Derived.Test.YtnbohlcibgfjaaaDoorRel16
import Derived.Test.YtnbohlcibgfjaaaDoorRel6
section
namespace Go.Proofs.YtnbohlcibgfjaaaDoor.Gp
open Go.RowKit Go.Proofs.YtnbohlcibgfjaaaDoorW.PrintWords Go.Proofs.YtnbohlcibgfjaaaDoorW.PrintLast Go.Proofs.YtnbohlcibgfjaaaDoorW.PrintMore
set_option linter.unusedVariables false
set_option linter.unusedSimpArgs false
structure impl_Release.Bx (w0 W : World) (A0 : Option Addr) (n0 c0 : Nat) : Prop where
 h0 : W.heap[w0.heap.size]? = some (.cells #[.slice A0 n0 c0] 36 (0, 0))
 h1 : W.heap[w0.heap.size + 1]? = some (.cells #[.slice none 0 0] 36 (0, 0))
 bel : Below w0.heap.size w0 W
theorem impl_Release.Bx.keep {w0 W W1 : World} {A0 : Option Addr} {n0 c0 : Nat} (h : impl_Release.Bx w0 W A0 n0 c0) (b : Below W.heap.size W W1) : impl_Release.Bx w0 W1 A0 n0 c0 := ⟨blk_below h.h0 b, blk_below h.h1 b, below_step h.bel b⟩
theorem impl_Release.Bx.init (w : World) (A0 : Option Addr) (n0 c0 : Nat) : impl_Release.Bx w ((w.alloc (.cells #[.slice A0 n0 c0] 36)).alloc (.cells #[.slice none 0 0] 36)) A0 n0 c0 := ⟨blk_alloc (blk_new w _) _, blk_new_at (by simp), by repeat (first | exact Below.refl _ _ | apply below_alloc)⟩
def impl_Release.rf (_ : Nat) (L : List RwT) (wk : Int) : Option (Int × List RwT) := some (0, (L.map (frR wk)).filter keepR)
set_option maxHeartbeats 4000000 in
set_option maxRecDepth 100000 in
theorem impl_Release.clo (k g : Nat) (L : List RwT) (wk : Int) (c : Int) (L' : List RwT) (gw : Nat) (w0 w : World) (hR : RowsAt w0 w g L) (hg2 : w.cell? ⟨gw, 0, none⟩ = some (.int .i64 wk)) (h : impl_Release.rf k L wk = some (c, L')) :
 Calls Tryd.prog 77 #[.pointer (some ⟨g, 0, none⟩), .pointer (some ⟨gw, 0, none⟩)] w fun e w' => e = .returned (.int .i64 c) ∧ RowsAt w0 w' g L' := by
 have hu1 := Tryd.underlying101
 have hu2 := Tryd.underlying29
 have hu3 := Tryd.underlying32
 have hu4 := Tryd.underlying36
 have hu5 := Tryd.underlying97
 have HR := Aside0.mk hR
 have H := Aside0.mk h
 clear hR h
 go_enter Tryd.func77, Tryd.ntmps77
 go_wp2_with (go_at_call 78; refine (impl_rows_release.release g L wk w0 _ HR.out).mono ?_; rintro e w6 ⟨rfl, hr⟩; have HR6 := Aside0.mk hr; clear hr)
 go_ret
 have h := H.out
 unfold impl_Release.rf at h
 simp only [Option.some.injEq, Prod.mk.injEq] at h
 obtain ⟨rfl, rfl⟩ := h
 exact ⟨rfl, HR6.out⟩
def impl_Release.ch (k : Nat) (l0 : List S32) (ok : Bool) (wk : Int) : Option (List S32 × Int) := if ok = true then (impl_ValidTable.f k l0).bind fun t => (if t = true then (impl_Table_rows.f l0).bind fun L => (impl_Release.rf k L wk).bind fun p => (impl_rows_table.f p.2).bind fun r => some (r, p.1) else some ([], 9)) else some ([], 9)
set_option maxHeartbeats 16000000 in
set_option maxRecDepth 100000 in
theorem impl_Release.changed (k : Nat) (A0 : Option Addr) (c0 : Nat) (l0 : List S32) (ok : Bool) (wk : Int) (r : List S32) (c : Int) (gw : Nat) (w : World) (hG : GRes w) (hr0 : Kd.C k32 w A0 l0.length l0) (hc0 : l0.length ≤ c0) (hg2 : w.cell? ⟨gw, 0, none⟩ = some (.int .i64 wk)) (h : impl_Release.ch k l0 ok wk = some (r, c)) :
 Calls Tryd.prog 76 #[.agg #[.slice A0 l0.length c0], .bool ok, .func (.func 77) #[] #[.pointer (some ⟨gw, 0, none⟩)]] w fun e w' => ∃ v : Value, e = .returned (.tuple #[.agg #[v], .int .i64 c]) ∧ Kd.S k32 32 w' w.heap.size (fun _ => True) v r ∧ Below w.heap.size w w' := by
 have hu1 := Tryd.underlying101
 have hu2 := Tryd.underlying29
 have hu3 := Tryd.underlying32
 have hu4 := Tryd.underlying36
 have hu5 := Tryd.underlying97
 unfold impl_Release.ch at h
 have HG := Aside0.mk hG
 have HR0 := Aside0.mk hr0
 have HC0 := Aside0.mk hc0
 have BX0 := Aside0.mk (impl_Release.Bx.init w A0 l0.length c0)
 have HK_hg2 := Aside0.mk hg2
 clear hG hr0 hc0 hg2
 cases ok with
 | false =>
  rw [if_neg (by decide)] at h
  simp only [Option.some.injEq, Prod.mk.injEq] at h
  obtain ⟨rfl, rfl⟩ := h
  go_enter Tryd.func76, Tryd.ntmps76
  go_wp2
  refine bodyPost_ret (results_ct rfl _ _ (w.heap.size + 1) 36 #[.slice none 0 0] (0, 0) _ rfl BX0.out.h1 Tryd.underlying36 rfl (by kernel_rfl)) rfl ?_
  exact ⟨.slice none 0 0, rfl, Kd.S_nil _ _ _ _ _, BX0.out.bel⟩
 | true =>
  rw [if_pos rfl] at h
  obtain ⟨t, ht, h⟩ := Option.bind_eq_some_iff.mp h
  have H1 := Aside0.mk ht
  clear ht
  cases t with
  | false =>
   rw [if_neg (by decide)] at h
   simp only [Option.some.injEq, Prod.mk.injEq] at h
   obtain ⟨rfl, rfl⟩ := h
   go_enter Tryd.func76, Tryd.ntmps76
   go_wp2_with (go_at_call 44; refine (impl_ValidTable.calls k A0 c0 l0 _ _ (GRes.below HG.out BX0.out.bel) (Kd.C_below HR0.out BX0.out.bel) HC0.out H1.out).mono ?_; rintro e w6 ⟨rfl, hb6⟩; have BX6 := Aside0.mk (BX0.out.keep hb6); have hz : w6.cell? ⟨w.heap.size + 1, 0, none⟩ = some (.slice none 0 0) := (blk_cell BX6.out.h1 0).trans rfl; have hf := blk_frozen BX6.out.h1 0; clear hb6)
   refine bodyPost_ret (results_ct rfl _ _ (w.heap.size + 1) 36 #[.slice none 0 0] (0, 0) _ rfl (blk_put BX6.out.h1 0 _ rfl) Tryd.underlying36 rfl (by kernel_rfl)) rfl ?_
   exact ⟨.slice none 0 0, rfl, Kd.S_nil _ _ _ _ _, below_set BX6.out.bel (by show w.heap.size ≤ w.heap.size + 1; omega)⟩
  | true =>
   rw [if_pos rfl] at h
   obtain ⟨L, hL, h⟩ := Option.bind_eq_some_iff.mp h
   obtain ⟨⟨c_, L'⟩, hp, h⟩ := Option.bind_eq_some_iff.mp h
   obtain ⟨r_, hr_, h⟩ := Option.bind_eq_some_iff.mp h
   simp only [Option.some.injEq, Prod.mk.injEq] at h
   obtain ⟨rfl, rfl⟩ := h
   have HL := Aside0.mk hL
   have HP := Aside0.mk hp
   have HT := Aside0.mk hr_
   clear hL hp hr_
   go_enter Tryd.func76, Tryd.ntmps76
   go_wp2_with (first | (go_at_call 44; refine (impl_ValidTable.calls k A0 c0 l0 _ _ (GRes.below HG.out BX0.out.bel) (Kd.C_below HR0.out BX0.out.bel) HC0.out H1.out).mono ?_; rintro e w6 ⟨rfl, hb6⟩; have BX6 := Aside0.mk (BX0.out.keep hb6); have ht6 : w6.cell? ⟨w.heap.size, 0, none⟩ = some (.slice A0 l0.length c0) := (blk_cell BX6.out.h0 0).trans rfl; clear hb6) | (go_at_call 58; refine (impl_Table_rows.rows A0 c0 l0 L _ (Kd.C_below HR0.out BX6.out.bel) HL.out).mono ?_; rintro e w7 ⟨g, rfl, hR⟩; have HR7 := Aside0.mk hR; have HB7 := Aside0.mk (below_step BX6.out.bel hR.bel); clear hR ht6) | (go_at_call 77; refine (impl_Release.clo k g L wk c_ L' gw w6 _ HR7.out (pw_cell_below HB7.out HK_hg2.out) HP.out).mono ?_; rintro e w8 ⟨rfl, hR⟩; have HR8 := Aside0.mk hR; clear hR) | (go_at_call 122; obtain ⟨AR, cR, hOr⟩ := HR8.out.ord; refine (impl_rows_table.table g AR cR L' r_ _ hOr HT.out).mono ?_; rintro e w9 ⟨v, rfl, hs, hb9⟩; obtain ⟨A9, c9, rfl⟩ := Kd.S_slice hs; have HS9 := Aside0.mk hs; have BX9 := Aside0.mk ((BX6.out.keep HR8.out.bel).keep hb9); have hz : w9.cell? ⟨w.heap.size + 1, 0, none⟩ = some (.slice none 0 0) := (blk_cell BX9.out.h1 0).trans rfl; have hf := blk_frozen BX9.out.h1 0; have HB8 := Aside0.mk (below_step BX6.out.bel HR8.out.bel); clear hs hb9 hOr))
   refine bodyPost_ret (results_ct rfl _ _ (w.heap.size + 1) 36 #[.slice A9 r_.length c9] (0, 0) _ rfl (blk_put BX9.out.h1 0 _ rfl) Tryd.underlying36 rfl (by kernel_rfl)) rfl ?_
   exact ⟨.slice A9 r_.length c9, rfl, Kd.S_set (Kd.S_lower HS9.out (below_size HB8.out)) BX9.out.h1 (by decide) 0 _, below_set BX9.out.bel (by show w.heap.size ≤ w.heap.size + 1; omega)⟩
structure impl_Release.Bs (w0 W : World) (A0 : Option Addr) (n0 c0 : Nat) (wk : Int) : Prop where
 h0 : W.heap[w0.heap.size]? = some (.cells #[.slice A0 n0 c0] 36 (0, 0))
 h1 : W.heap[w0.heap.size + 1]? = some (.cells #[.int .i64 wk] 3 (0, 0))
 h2 : W.heap[w0.heap.size + 1 + 1]? = some (.cells #[.slice none 0 0] 36 (0, 0))
 bel : Below w0.heap.size w0 W
theorem impl_Release.Bs.keep {w0 W W1 : World} {A0 : Option Addr} {n0 c0 : Nat} {wk : Int} (h : impl_Release.Bs w0 W A0 n0 c0 wk) (b : Below W.heap.size W W1) : impl_Release.Bs w0 W1 A0 n0 c0 wk := ⟨blk_below h.h0 b, blk_below h.h1 b, blk_below h.h2 b, below_step h.bel b⟩
theorem impl_Release.Bs.init (w : World) (A0 : Option Addr) (n0 c0 : Nat) (wk : Int) : impl_Release.Bs w (((w.alloc (.cells #[.slice A0 n0 c0] 36)).alloc (.cells #[.int .i64 wk] 3)).alloc (.cells #[.slice none 0 0] 36)) A0 n0 c0 wk :=
 ⟨blk_alloc (blk_alloc (blk_new w _) _) _, blk_alloc (blk_new_at (by simp)) _, blk_new_at (by simp), by repeat (first | exact Below.refl _ _ | apply below_alloc)⟩
theorem impl_Release.Bs.lo {w0 W : World} {A0 : Option Addr} {n0 c0 : Nat} {wk : Int} (h : impl_Release.Bs w0 W A0 n0 c0 wk) : w0.heap.size + 1 + 1 < W.heap.size := blk_lt h.h2
theorem impl_Release.Bs.set {w0 W : World} {A0 : Option Addr} {n0 c0 g : Nat} {wk : Int} {y : Value} (h : impl_Release.Bs w0 W A0 n0 c0 wk) (hg : w0.heap.size + 1 + 1 < g) : impl_Release.Bs w0 (W.setCell ⟨g, 0, none⟩ y) A0 n0 c0 wk :=
 ⟨blk_far h.h0 (p := ⟨g, 0, none⟩) (by show _ ≠ g; omega) _, blk_far h.h1 (p := ⟨g, 0, none⟩) (by show _ ≠ g; omega) _, blk_far h.h2 (p := ⟨g, 0, none⟩) (by show _ ≠ g; omega) _, below_set h.bel (by show w0.heap.size ≤ g; omega)⟩
def impl_Release.f (k : Nat) (l0 : List S32) (wk : Int) : Option (List S32) := (impl_workerOk.f wk).bind fun t2 => (impl_Release.ch k l0 t2 wk).bind fun p => some p.1
set_option maxHeartbeats 16000000 in
set_option maxRecDepth 100000 in
theorem impl_Release.calls (k : Nat) (A0_0 : Option Addr) (c0_0 : Nat) (l0_0 : List S32) (a1 : Int) (r : List S32) (w : World) (hG : GRes w) (hr0_0 : Kd.C k32 w A0_0 l0_0.length l0_0) (hc0_0 : l0_0.length ≤ c0_0) (h : impl_Release.f k l0_0 a1 = some r) :
 Calls Tryd.prog 30 #[.agg #[.slice A0_0 l0_0.length c0_0], .int .i64 a1] w fun e w' => ∃ v : Value, e = .returned (.agg #[v]) ∧ Kd.S k32 32 w' w.heap.size (fun _ => True) v r ∧ Below w.heap.size w w' := by
 have hu1 := Tryd.underlying101
 have hu2 := Tryd.underlying29
 have hu3 := Tryd.underlying32
 have hu4 := Tryd.underlying36
 have hu5 := Tryd.underlying97
 have hmf : ∀ (fn : Fn) (first cap : Array Value) (w : World), (Instr.makeFunc fn first cap).run Tryd.prog w = .ok (.func fn first cap) w := fun _ _ _ _ => rfl
 unfold impl_Release.f at h
 obtain ⟨t2, ht2, h⟩ := Option.bind_eq_some_iff.mp h
 obtain ⟨⟨r_, c⟩, hp, h⟩ := Option.bind_eq_some_iff.mp h
 obtain rfl := Option.some.inj h
 have HG := Aside0.mk hG
 have HR0 := Aside0.mk hr0_0
 have HC0 := Aside0.mk hc0_0
 have H2 := Aside0.mk ht2
 have HP := Aside0.mk hp
 have BX0 := Aside0.mk (impl_Release.Bs.init w A0_0 l0_0.length c0_0 a1)
 clear hG hr0_0 hc0_0 ht2 hp h
 go_enter Tryd.func30, Tryd.ntmps30
 go_wp2
 obtain ⟨w2, hw2⟩ : ∃ W_ : World, W_ = (((w.alloc (.cells #[.slice A0_0 l0_0.length c0_0] 36)).alloc (.cells #[.int .i64 a1] 3)).alloc (.cells #[.slice none 0 0] 36)) := ⟨_, rfl⟩
 rw [← hw2]
 have BX2 := Aside0.mk (show impl_Release.Bs w w2 A0_0 l0_0.length c0_0 a1 by rw [hw2]; exact BX0.out)
 clear hw2 BX0
 refine start_ (n := 11) (S := fun w' => w'.cell? ⟨w.heap.size, 0, none⟩ = some (.slice A0_0 l0_0.length c0_0) ∧ w'.cell? ⟨w.heap.size + 1, 0, none⟩ = some (.int .i64 a1)) (ds := [9]) #[false, false, false, false, false, false, false, false, false, false, false] (by kernel_rfl) rfl rfl ⟨(blk_cell BX2.out.h0 0).trans rfl, (blk_cell BX2.out.h1 0).trans rfl⟩ (fun hHeld => ?_)
 refine takeY (i := 0) (N := some 8) (v := ?_) (a' := ?_) #[true, false, false, false, false, false, false, false, false, false, false] rfl rfl (by kernel_rfl) ⟨by rfl, ?_⟩ hHeld ?_ ?_
 rotate_left
 · rintro w' ⟨s0, s1⟩
   go_simp
   with_reducible rfl
 rotate_left
 · simp only [Act.put, sA_, i64_w, i32_w]
   rfl
 refine takeY (i := 1) (N := some 9) (v := ?_) (a' := ?_) #[true, true, false, false, false, false, false, false, false, false, false] rfl rfl (by kernel_rfl) ⟨by rfl, ?_⟩ hHeld ?_ ?_
 rotate_left
 · rintro w' ⟨s0, s1⟩
   go_simp
   with_reducible rfl
 rotate_left
 · simp only [Act.put, sA_, i64_w, i32_w]
   rfl
 refine pureY (i := 3) (N := some 11) (v := ?_) (a' := ?_) #[true, true, false, true, false, false, false, false, false, false, false] rfl rfl (by kernel_rfl) ⟨by rfl, ?_⟩ ?_ ?_
 rotate_left
 · intro w'
   go_simp
   with_reducible rfl
 rotate_left
 · simp only [Act.put, sA_, i64_w, i32_w]
   rfl
 have HH0 := Aside0.mk hHeld
 refine join_ (σ := Nat × Option Addr × Nat) 2 #[true, true, true, true, true, true, true, true, true, false, false] (fun s => [(10, (.bool t2)), (12, (.tuple #[.agg #[(.slice s.2.1 r_.length s.2.2)], .int .i64 c])), (7, (.tuple #[.agg #[(.slice s.2.1 r_.length s.2.2)], .int .i64 c])), (13, (.agg #[(.slice s.2.1 r_.length s.2.2)])), (14, (.int .i64 c)), (5, (.pointer (some ⟨s.1, 0, none⟩)))]) (fun s w' => w'.heap[s.1]? = some (.cells #[.slice none 0 0] 36 (0, 0)) ∧ w2.heap.size ≤ s.1 ∧ Below w2.drew.heap.size w2.drew w' ∧ Kd.S k32 32 w' w2.heap.size (fun _ => True) (.slice s.2.1 r_.length s.2.2) r_) ?_ ?_
 rotate_left
 ·
  intro hJ2
  refine join_ (σ := Nat × Option Addr × Nat) 6 #[true, true, true, true, false, false, false, false, true, false, false] (fun s => [(10, (.bool t2)), (5, (.pointer (some ⟨s.1, 0, none⟩)))]) (fun s w' => w'.heap[s.1]? = some (.cells #[.slice none 0 0] 36 (0, 0)) ∧ w2.heap.size ≤ s.1 ∧ Below w2.drew.heap.size w2.drew w') ?_ ?_
  rotate_left
  ·
   intro hJ1
   refine join_ (σ := Nat × Option Addr × Nat) 7 #[true, true, false, true, false, false, false, false, true, false, false] (fun s => [(5, (.pointer (some ⟨s.1, 0, none⟩)))]) (fun s w' => w'.heap[s.1]? = some (.cells #[.slice none 0 0] 36 (0, 0)) ∧ w2.heap.size ≤ s.1 ∧ Below w2.drew.heap.size w2.drew w') ?_ ?_
   rotate_left
   ·
    intro hJ0
    refine two_ (i := 2) (j := 8) (Ni := some 10) (Nj := some 5) #[true, true, true, true, false, false, false, false, false, false, false] #[true, true, false, true, false, false, false, false, true, false, false] rfl rfl rfl rfl (by kernel_rfl) (by decide) (by decide) (fun K hK => ?_) (fun K hK => ?_)
    ·
     refine goes_ Tryd.func71 rfl rfl #[.int .i64 a1] rfl rfl rfl (by (try simp only [List.map_toArray, List.map_cons, List.map_nil, List.append_toArray, List.append_nil, List.nil_append, List.cons_append]); rfl) ?_
     refine (impl_workerOk.calls a1 t2 _ H2.out).mono ?_
     rintro e u0 ⟨rfl, hd_⟩
     have hb_u0 : Below w2.drew.heap.size w2.drew u0 := (by obtain ⟨nd, rfl⟩ := hd_; exact pw_below_drewN (Below.refl _ _) nd)
     clear hd_
     refine ⟨_, rfl, ?_⟩
     refine hK.out _ _ ⟨pw_cell_below hb_u0 hHeld.1, pw_cell_below hb_u0 hHeld.2⟩ (fun hHeld => ?_)
     clear hK K
     refine two_ (i := 4) (j := 8) (Ni := some 12) (Nj := some 5) #[true, true, true, true, true, false, false, false, false, false, false] #[true, true, true, true, false, false, false, false, true, false, false] rfl rfl rfl rfl (by kernel_rfl) (by decide) (by decide) (fun K hK => ?_) (fun K hK => ?_)
     ·
      have BXc := BX2.out.keep (below_step (below_drew1 (Below.refl _ _)) hb_u0)
      refine goes_ Tryd.func76 rfl rfl #[.agg #[.slice A0_0 l0_0.length c0_0], .bool t2, (.func (.func 77) #[] #[.pointer (some ⟨w.heap.size + 1, 0, none⟩)])] rfl rfl rfl (by (try simp only [List.map_toArray, List.map_cons, List.map_nil, List.append_toArray, List.append_nil, List.nil_append, List.cons_append]); rfl) ?_
      refine (impl_Release.changed k A0_0 c0_0 l0_0 t2 a1 r_ c (w.heap.size + 1) _ (HG.out.below BXc.bel) (Kd.C_below HR0.out BXc.bel) HC0.out ((blk_cell BXc.h1 0).trans rfl) HP.out).mono ?_
      rintro e u1 ⟨v_, rfl, hR_, hb_u1⟩
      obtain ⟨Ad_, cd_, rfl⟩ := Kd.S_slice hR_
      clear BXc
      refine ⟨_, rfl, ?_⟩
      refine hK.out _ _ ⟨pw_cell_below hb_u1 hHeld.1, pw_cell_below hb_u1 hHeld.2⟩ (fun hHeld => ?_)
      clear hK K
      refine norm_ (a' := ?_) ?_ ?_
      rotate_left
      · simp only [putAll, Act.put, sA_]
        rfl
      refine pureY (i := 5) (N := some 7) (v := ?_) (a' := ?_) #[true, true, true, true, true, true, false, false, false, false, false] rfl rfl (by kernel_rfl) ⟨by rfl, ?_⟩ ?_ ?_
      rotate_left
      · intro w'
        go_simp
        with_reducible rfl
      rotate_left
      · simp only [Act.put, sA_, i64_w, i32_w]
        rfl
      refine pureY (i := 6) (N := some 13) (v := ?_) (a' := ?_) #[true, true, true, true, true, true, true, false, false, false, false] rfl rfl (by kernel_rfl) ⟨by rfl, ?_⟩ ?_ ?_
      rotate_left
      · intro w'
        go_simp
        with_reducible rfl
      rotate_left
      · simp only [Act.put, sA_, i64_w, i32_w]
        rfl
      refine pureY (i := 7) (N := some 14) (v := ?_) (a' := ?_) #[true, true, true, true, true, true, true, true, false, false, false] rfl rfl (by kernel_rfl) ⟨by rfl, ?_⟩ ?_ ?_
      rotate_left
      · intro w'
        go_simp
        with_reducible rfl
      rotate_left
      · simp only [Act.put, sA_, i64_w, i32_w]
        rfl
      refine one_ (i := 8) (N := some 5) #[true, true, true, true, true, true, true, true, true, false, false] rfl rfl (by kernel_rfl) (by decide) (fun K hK => ?_)
      refine value_ (v := .pointer (some ⟨u1.heap.size, 0, none⟩)) (w1 := u1.alloc (.cells #[.slice none 0 0] 36)) (by rfl) rfl ?_ ?_
      · go_simp
      refine hK.out _ _ ⟨pw_cell_below (below_alloc (Below.refl _ _) _) hHeld.1, pw_cell_below (below_alloc (Below.refl _ _) _) hHeld.2⟩ (fun hHeld => ?_)
      clear hK K
      exact norm_ (by first | (simp only [putAll, Act.put, sA_]; done) | (simp only [putAll, Act.put, sA_]; rfl)) (hJ2 (u1.heap.size, Ad_, cd_) _ ⟨blk_new _ _, (below_size (below_step (below_drew1 (Below.refl _ _)) (below_step hb_u0 hb_u1))), below_alloc (below_step hb_u0 hb_u1) _, Kd.S_below (Kd.S_lower hR_ (below_size (below_step (below_drew1 (Below.refl _ _)) hb_u0))) (below_alloc (Below.refl _ _) _)⟩)
     refine value_ (v := .pointer (some ⟨u0.heap.size, 0, none⟩)) (w1 := u0.alloc (.cells #[.slice none 0 0] 36)) (by rfl) rfl ?_ ?_
     · go_simp
     refine hK.out _ _ ⟨pw_cell_below (below_alloc (Below.refl _ _) _) hHeld.1, pw_cell_below (below_alloc (Below.refl _ _) _) hHeld.2⟩ (fun hHeld => ?_)
     clear hK K
     exact norm_ (by first | (simp only [putAll, Act.put, sA_]; done) | (simp only [putAll, Act.put, sA_]; rfl)) (hJ1 (u0.heap.size, none, 0) _ ⟨blk_new _ _, (below_size (below_step (below_drew1 (Below.refl _ _)) hb_u0)), below_alloc hb_u0 _⟩)
    refine value_ (v := .pointer (some ⟨w2.drew.heap.size, 0, none⟩)) (w1 := w2.drew.alloc (.cells #[.slice none 0 0] 36)) (by rfl) rfl ?_ ?_
    · go_simp
    refine hK.out _ _ ⟨pw_cell_below (below_alloc (Below.refl _ _) _) hHeld.1, pw_cell_below (below_alloc (Below.refl _ _) _) hHeld.2⟩ (fun hHeld => ?_)
    clear hK K
    exact norm_ (by first | (simp only [putAll, Act.put, sA_]; done) | (simp only [putAll, Act.put, sA_]; rfl)) (hJ0 (w2.drew.heap.size, none, 0) _ ⟨blk_new _ _, (below_size (below_step (below_drew1 (Below.refl _ _)) (Below.refl _ _))), below_alloc (Below.refl _ _) _⟩)
   rintro ⟨gw_, Ad0_, cd0_⟩ wj_ ⟨hg_, hge_, hb_⟩
   refine norm_ (a' := ?_) ?_ ?_
   rotate_left
   · simp only [putAll, Act.put, sA_]
     rfl
   refine one_ (i := 2) (N := some 10) #[true, true, true, true, false, false, false, false, true, false, false] rfl rfl (by kernel_rfl) (by decide) (fun K hK => ?_)
   refine goes_ Tryd.func71 rfl rfl #[.int .i64 a1] rfl rfl rfl (by (try simp only [List.map_toArray, List.map_cons, List.map_nil, List.append_toArray, List.append_nil, List.nil_append, List.cons_append]); rfl) ?_
   refine (impl_workerOk.calls a1 t2 _ H2.out).mono ?_
   rintro e u0 ⟨rfl, hd_⟩
   have hb_u0 : Below wj_.heap.size wj_ u0 := (by obtain ⟨nd, rfl⟩ := hd_; exact pw_below_drewN (Below.refl _ _) nd)
   clear hd_
   refine ⟨_, rfl, ?_⟩
   refine hK.out _ _ ⟨pw_cell_below (below_step hb_ hb_u0) HH0.out.1, pw_cell_below (below_step hb_ hb_u0) HH0.out.2⟩ (fun hHeld => ?_)
   clear hK K
   exact norm_ (by first | (simp only [putAll, Act.put, sA_]; done) | (simp only [putAll, Act.put, sA_]; rfl)) (hJ1 (gw_, none, 0) _ ⟨blk_below hg_ hb_u0, hge_, below_step hb_ hb_u0⟩)
  rintro ⟨gw_, Ad0_, cd0_⟩ wj_ ⟨hg_, hge_, hb_⟩
  refine norm_ (a' := ?_) ?_ ?_
  rotate_left
  · simp only [putAll, Act.put, sA_]
    rfl
  refine one_ (i := 4) (N := some 12) #[true, true, true, true, true, false, false, false, true, false, false] rfl rfl (by kernel_rfl) (by decide) (fun K hK => ?_)
  have BXc := BX2.out.keep (below_step (below_drew1 (Below.refl _ _)) hb_)
  refine goes_ Tryd.func76 rfl rfl #[.agg #[.slice A0_0 l0_0.length c0_0], .bool t2, (.func (.func 77) #[] #[.pointer (some ⟨w.heap.size + 1, 0, none⟩)])] rfl rfl rfl (by (try simp only [List.map_toArray, List.map_cons, List.map_nil, List.append_toArray, List.append_nil, List.nil_append, List.cons_append]); rfl) ?_
  refine (impl_Release.changed k A0_0 c0_0 l0_0 t2 a1 r_ c (w.heap.size + 1) _ (HG.out.below BXc.bel) (Kd.C_below HR0.out BXc.bel) HC0.out ((blk_cell BXc.h1 0).trans rfl) HP.out).mono ?_
  rintro e u1 ⟨v_, rfl, hR_, hb_u1⟩
  obtain ⟨Ad_, cd_, rfl⟩ := Kd.S_slice hR_
  clear BXc
  refine ⟨_, rfl, ?_⟩
  refine hK.out _ _ ⟨pw_cell_below (below_step hb_ hb_u1) HH0.out.1, pw_cell_below (below_step hb_ hb_u1) HH0.out.2⟩ (fun hHeld => ?_)
  clear hK K
  refine norm_ (a' := ?_) ?_ ?_
  rotate_left
  · simp only [putAll, Act.put, sA_]
    rfl
  refine pureY (i := 5) (N := some 7) (v := ?_) (a' := ?_) #[true, true, true, true, true, true, false, false, true, false, false] rfl rfl (by kernel_rfl) ⟨by rfl, ?_⟩ ?_ ?_
  rotate_left
  · intro w'
    go_simp
    with_reducible rfl
  rotate_left
  · simp only [Act.put, sA_, i64_w, i32_w]
    rfl
  refine pureY (i := 6) (N := some 13) (v := ?_) (a' := ?_) #[true, true, true, true, true, true, true, false, true, false, false] rfl rfl (by kernel_rfl) ⟨by rfl, ?_⟩ ?_ ?_
  rotate_left
  · intro w'
    go_simp
    with_reducible rfl
  rotate_left
  · simp only [Act.put, sA_, i64_w, i32_w]
    rfl
  refine pureY (i := 7) (N := some 14) (v := ?_) (a' := ?_) #[true, true, true, true, true, true, true, true, true, false, false] rfl rfl (by kernel_rfl) ⟨by rfl, ?_⟩ ?_ ?_
  rotate_left
  · intro w'
    go_simp
    with_reducible rfl
  rotate_left
  · simp only [Act.put, sA_, i64_w, i32_w]
    rfl
  exact norm_ (by first | (simp only [putAll, Act.put, sA_]; done) | (simp only [putAll, Act.put, sA_]; rfl)) (hJ2 (gw_, Ad_, cd_) _ ⟨blk_below hg_ hb_u1, hge_, below_step hb_ hb_u1, Kd.S_lower hR_ (below_size (below_step (below_drew1 (Below.refl _ _)) hb_))⟩)
 rintro ⟨gw, Ad, cd⟩ wj ⟨hg, hge, hb, hR⟩
 refine norm_ (a' := ?_) ?_ ?_
 rotate_left
 · simp only [putAll, Act.put, sA_]
   rfl
 refine last_ (i := 9) (N := none) #[true, true, true, true, true, true, true, true, true, true, false] rfl rfl (by kernel_rfl) (by decide) (fun K hK => ?_)
 have hc0 : wj.cell? ⟨gw, 0, none⟩ = some (.slice none 0 0) := (blk_cell hg 0).trans rfl
 have hf0 := blk_frozen hg 0
 refine skip_ (w1 := (wj.setCell ⟨gw, 0, none⟩ (.slice Ad r_.length cd))) (by rfl) rfl ?_ ?_
 · go_simp
 clear hc0 hf0
 refine hK.out _ _ ?_
 clear hK K
 refine pureY (i := 10) (N := some 6) (v := ?_) (a' := ?_) #[true, true, true, true, true, true, true, true, true, true, true] rfl rfl (by kernel_rfl) ⟨by rfl, ?_⟩ ?_ ?_
 rotate_left
 · intro w'
   go_simp
   with_reducible rfl
 rotate_left
 · simp only [Act.put, sA_, i64_w, i32_w]
   rfl
 refine done_ (by kernel_rfl) ?_
 obtain ⟨w3, hw3⟩ : ∃ W_ : World, W_ = (wj.setCell ⟨gw, 0, none⟩ (.slice Ad r_.length cd)) := ⟨_, rfl⟩
 rw [← hw3]
 have hlo := BX2.out.lo
 have BX3 := Aside0.mk (show impl_Release.Bs w w3 A0_0 l0_0.length c0_0 a1 by rw [hw3]; exact (BX2.out.keep (below_step (below_drew1 (Below.refl _ _)) hb)).set (by omega))
 have hx3 : w3.heap[gw]? = some (.cells #[(.slice Ad r_.length cd)] 36 (0, 0)) := by rw [hw3]; exact blk_put hg 0 _ rfl
 have HR3 := Aside0.mk (show Kd.S k32 32 w3 w2.heap.size (fun _ => True) (.slice Ad r_.length cd) r_ by rw [hw3]; exact Kd.S_set hR hg (by decide) 0 _)
 have hz3 : w3.cell? ⟨gw, 0, none⟩ = some (.slice Ad r_.length cd) := (blk_cell hx3 0).trans rfl
 have hz4 : w3.cell? ⟨w.heap.size + 1 + 1, 0, none⟩ = some (.slice none 0 0) := (blk_cell BX3.out.h2 0).trans rfl
 have hf4 := blk_frozen BX3.out.h2 0
 have HB2 := Aside0.mk BX2.out.bel
 clear hw3 hx3 hg hge hb hR HH0 hlo
 go_wp2
 refine bodyPost_ret (results_cell_row rfl _ _ (w.heap.size + 1 + 1) 36 #[(.slice Ad r_.length cd)] (0, 0) _ rfl (blk_put BX3.out.h2 0 _ rfl) Tryd.underlying36 rfl (by kernel_rfl)) rfl ?_
 exact ⟨(.slice Ad r_.length cd), rfl, Kd.S_set (Kd.S_lower HR3.out (below_size HB2.out)) BX3.out.h2 (by decide) 0 _, below_set BX3.out.bel (by show w.heap.size ≤ w.heap.size + 1 + 1; omega)⟩
def laws_heldKeyS.l0 : Nat → List (S29) → Int → Int → Option (Int)
 | 0, _, _, _ => none
 | k + 1, x0, x1, x5 => if x5 < (x0.length : Int) then (if 0 ≤ x5 then (if ((rd_T29 x0 x5).f0) = x1 then ((laws_markText.f k (wrap64 (x1 + 1))).bind fun t238 => (if ((rd_T29 x0 x5).f1).toList = t238.toList then (laws_heldKeyS.l0 k x0 (wrap64 ((wrap64 (x1 + 1)) + 1)) (wrap64 (x5 + 1))) else (some (-1)))) else (some (-1))) else (none)) else (some x1)
def laws_heldKeyS.f (k : Nat) (l0 : List (S29)) (a1 : Int) : Option (Int) := laws_heldKeyS.l0 k l0 a1 0
def laws_heldKeyS.T7 : Bool × List (List Nat × List Nat) := (true, [([], []), ([], []), ([0, 1], [0, 1]), ([2], [2]), ([3], [3]), ([], []), ([5], [5]), ([4, 6], [4, 6])])
def laws_heldKeyS.B7 : List Nat := [0, 0, 3, 7, 15, 0, 32, 127]
theorem laws_heldKeyS.tab7 : rtab .any (opsOf Tryd.f64 7) = laws_heldKeyS.T7 := by kernel_rfl
theorem laws_heldKeyS.bits7 : waitsOk laws_heldKeyS.T7.2 laws_heldKeyS.B7 = true := by kernel_rfl
set_option maxHeartbeats 8000000 in
set_option maxRecDepth 100000 in
theorem laws_heldKeyS.calls (k : Nat) (A0 : Option Addr) (c0 : Nat) (l0 : List (S29)) (a1 : Int) (r : Int) (w : World) (hr0 : Kd.C k29 w A0 l0.length l0) (hc0 : l0.length ≤ c0) (h : laws_heldKeyS.f k l0 a1 = some r) :
 Calls Tryd.prog 64 #[.slice A0 l0.length c0, .int .i64 a1] w fun e w' => e = .returned (.int .i64 r) ∧ Below w.heap.size w w' := by
 have HR0 := Aside0.mk hr0
 have HC0 := Aside0.mk hc0
 clear hr0 hc0
 have HB := Aside0.mk (Below.refl w.heap.size w)
 have H : (laws_heldKeyS.l0 k l0 a1 0) = some r := h
 clear h
 have H' := Aside0.mk H
 clear H
 go_enter Tryd.func64, Tryd.ntmps64
 go_wp2
 go_loopg [1, 5] k (fun kq v1 v5 w' => ∃ (x1_1 : Int) (x5_1 : Int), v1 = .int .i64 x1_1 ∧ v5 = .int .i64 x5_1 ∧ Aside0 (laws_heldKeyS.l0 kq l0 x1_1 x5_1 = some r) ∧ Aside0 (kq ≤ k) ∧ Aside0 (Below w.heap.size w w'))
 case atStart => exact ⟨(a1), (0), (by first | rfl | (simp; done) | (simp [*]; done)), (by first | rfl | (simp; done) | (simp [*]; done)), H', ⟨Nat.le_refl _⟩, ⟨by repeat (first | (with_reducible first | exact HB.out | apply below_alloc | apply pw_below_drewN | apply below_drew1) | exact HB.out)⟩⟩
 case round =>
  clear H'
  try clear p2
  obtain ⟨x1_1, x5_1, rfl, rfl, HA, HK1, HB⟩ := hrel
  cases gk with
  | zero => exact absurd HA.out (by simp [laws_heldKeyS.l0])
  | succ k1 =>
   have H := HA.out
   clear HA
   simp only [laws_heldKeyS.l0] at H
   by_cases c3 : x5_1 < (l0.length : Int)
   ·
    rw [if_pos c3] at H
    have c3b0 : decide (x5_1 < (l0.length : Int)) = true := decide_eq_true c3
    clear c3
    by_cases c4 : 0 ≤ x5_1
    ·
     rw [if_pos c4] at H
     have c4b0 : decide (0 ≤ x5_1) = true := decide_eq_true c4
     clear c4
     by_cases c5 : ((rd_T29 l0 x5_1).f0) = x1_1
     ·
      rw [if_pos c5] at H
      have c5b0 : (((rd_T29 l0 x5_1).f0) == x1_1) = true := beq_iff_eq.mpr c5
      have c5b1 : (((rd_T29 l0 x5_1).f0) != x1_1) = false := bne_eq_false_iff_eq.mpr c5
      clear c5
      replace H := Option.bind_eq_some_iff.mp H
      obtain ⟨t238, A60, H⟩ := H
      replace H : (if ((rd_T29 l0 x5_1).f1).toList = t238.toList then (laws_heldKeyS.l0 k1 l0 (wrap64 ((wrap64 (x1_1 + 1)) + 1)) (wrap64 (x5_1 + 1))) else (some (-1))) = some r := H
      have A6 := Aside0.mk A60
      clear A60
      have HL7 := Aside0.mk H
      clear H
      have p236 : 0 ≤ (x5_1 : Int) := of_decide_eq_true (by first | (with_reducible assumption) | assumption)
      have q236 : x5_1 < (l0.length : Int) := of_decide_eq_true (by first | (with_reducible assumption) | assumption)
      obtain ⟨ad236, e236, hx236_0, hx236_1⟩ := at_T29 HR0.out x5_1 p236 q236
      cases e236
      replace hx236_0 := bcl HB hx236_0
      replace hx236_1 := bcl HB hx236_1
      replace p236 := eq_true p236
      replace q236 := eq_true q236
      try go_wp2
      have n0_ := Aside0.mk (below_drew1 HB.out)
      clear HB
      have HB := n0_
      clear n0_
      have p237 : 0 ≤ (x5_1 : Int) := of_decide_eq_true (by first | (with_reducible assumption) | assumption)
      have q237 : x5_1 < (l0.length : Int) := of_decide_eq_true (by first | (with_reducible assumption) | assumption)
      obtain ⟨ad237, e237, hx237_0, hx237_1⟩ := at_T29 HR0.out x5_1 p237 q237
      have hw237_1 := hx237_1
      have hw237_0 := hx237_0
      obtain rfl : ad236 = ad237 := (by injection e237)
      replace hx237_0 := bcl HB hx237_0
      replace hx237_1 := bcl HB hx237_1
      replace p237 := eq_true p237
      replace q237 := eq_true q237
      refine start_ (n := 8) (S := fun w' => w'.cell? (ad236.add ((x5_1).toNat * 2)) = some (.int .i64 ((rd_T29 l0 x5_1).f0)) ∧ w'.cell? ⟨(ad236.add ((x5_1).toNat * 2)).block, (ad236.add ((x5_1).toNat * 2)).off + 1, none⟩ = some (.string ((rd_T29 l0 x5_1).f1))) (ds := []) #[false, false, false, false, false, false, false, false] (by kernel_rfl) rfl rfl ⟨((HB.out.cell (World.block_lt_of_cell? w _ hw237_0)).trans hw237_0), ((HB.out.cell (World.block_lt_of_cell? w _ hw237_1)).trans hw237_1)⟩ (fun hHeld => ?_); refine with_tabW laws_heldKeyS.tab7 laws_heldKeyS.bits7 (fun HT_ HW_ => ?_)
      generalize wr.drew = w8 at HB hx237_0 hx237_1 hHeld ⊢
      refine pureY (i := 0) (N := some 21) (v := ?_) (a' := ?_) #[true, false, false, false, false, false, false, false] rfl rfl (any_of HT_.out (by kernel_rfl)) ⟨by rfl, ?_⟩ ?_ ?_
      rotate_left
      · intro w'
        go_simp
        with_reducible rfl
      rotate_left
      · simp only [Act.put, sA_, i64_w, i32_w]
        rfl
      refine pureY (i := 1) (N := some 22) (v := ?_) (a' := ?_) #[true, true, false, false, false, false, false, false] rfl rfl (any_of HT_.out (by kernel_rfl)) ⟨by rfl, ?_⟩ ?_ ?_
      rotate_left
      · intro w'
        go_simp
        with_reducible rfl
      rotate_left
      · simp only [Act.put, sA_, i64_w, i32_w]
        rfl
      refine pureY (i := 2) (N := some 23) (v := ?_) (a' := ?_) #[true, true, true, false, false, false, false, false] rfl rfl (any_of HT_.out (by kernel_rfl)) ⟨by rfl, ?_⟩ ?_ ?_
      rotate_left
      · intro w'
        go_simp
        with_reducible rfl
      rotate_left
      · simp only [Act.put, sA_, i64_w, i32_w]
        rfl
      refine pureY (i := 3) (N := some 24) (v := ?_) (a' := ?_) #[true, true, true, true, false, false, false, false] rfl rfl (any_of HT_.out (by kernel_rfl)) ⟨by rfl, ?_⟩ ?_ ?_
      rotate_left
      · intro w'
        go_simp
        with_reducible rfl
      rotate_left
      · simp only [Act.put, sA_, i64_w, i32_w]
        rfl
      refine pureY (i := 5) (N := some 26) (v := ?_) (a' := ?_) #[true, true, true, true, false, true, false, false] rfl rfl (any_of HT_.out (by kernel_rfl)) ⟨by rfl, ?_⟩ ?_ ?_
      rotate_left
      · intro w'
        go_simp
        with_reducible rfl
      rotate_left
      · simp only [Act.put, sA_, i64_w, i32_w]
        rfl
      refine takeY (i := 4) (N := some 25) (v := ?_) (a' := ?_) #[true, true, true, true, true, true, false, false] rfl rfl (take_ofW HT_.out HW_.out (by kernel_rfl)) ⟨by rfl, ?_⟩ hHeld ?_ ?_
      rotate_left
      · rintro w' ⟨s0, s1⟩
        go_simp
        with_reducible rfl
      rotate_left
      · simp only [Act.put, sA_, i64_w, i32_w]
        rfl
      refine one_ (i := 6) (N := some 27) #[true, true, true, true, true, true, true, false] rfl rfl (one_of HT_.out (by kernel_rfl)) (by decide) (fun K hK => ?_)
      refine goes_ Tryd.func90 (by kernel_rfl) rfl #[.int .i64 (wrap64 (x1_1 + 1))] (by rfl) rfl rfl (by (try simp only [List.map_toArray, List.map_cons, List.map_nil]); first | done | rfl | (simp only [List.length_drop, List.length_take]; rfl)) ?_
      with_reducible refine (laws_markText.calls k1 (wrap64 (x1_1 + 1)) t238 _ A6.out).mono ?_
      rintro e w9 ⟨rfl, hb⟩
      refine ⟨_, rfl, ?_⟩
      have hb1_ := fromQ HB.out hb
      have hb0_ := below_step hb1_ hb
      replace HB := kH HB hb0_
      clear hb1_ hb0_
      (try clear hb)
      (try clear hb2)
      (try clear hk)
      (try clear hi)
      refine hK.out _ _ ⟨((HB.out.cell (World.block_lt_of_cell? w _ hw237_0)).trans hw237_0), ((HB.out.cell (World.block_lt_of_cell? w _ hw237_1)).trans hw237_1)⟩ (fun hHeld => ?_)
      clear hK K
      refine norm_ (a' := ?_) ?_ ?_
      rotate_left
      · show Act.put _ (some 27) _ = _
        simp only [Act.put, sA_, i64_w, i32_w]
        rfl
      refine pureY (i := 7) (N := some 28) (v := ?_) (a' := ?_) #[true, true, true, true, true, true, true, true] rfl rfl (any_of HT_.out (by kernel_rfl)) ⟨by rfl, ?_⟩ ?_ ?_
      rotate_left
      · intro w'
        go_simp
        with_reducible rfl
      rotate_left
      · simp only [Act.put, sA_, i64_w, i32_w]
        rfl
      refine done_ (done_of HT_.out (by kernel_rfl)) ?_
      go_upto_if 28 with (fail)
      have H := HL7.out
      clear HL7
      by_cases c10 : ((rd_T29 l0 x5_1).f1).toList = t238.toList
      ·
       rw [if_pos c10] at H
       have c10b0 : (((rd_T29 l0 x5_1).f1).toList == t238.toList) = true := beq_iff_eq.mpr c10
       have c10b1 : (((rd_T29 l0 x5_1).f1).toList != t238.toList) = false := bne_eq_false_iff_eq.mpr c10
       clear c10
       (first | rw [c10b0] | (simp only [i64_w, i32_w]; rw [c10b0]) | simp only [c10b2, Bool.not_false, Bool.not_true] | skip)
       have H' := Aside0.mk H
       clear H
       go_wp2
       go_roundg k1
       case measure => have := HK1.out; omega
       case rel => exact ⟨(wrap64 ((wrap64 (x1_1 + 1)) + 1)), (wrap64 (x5_1 + 1)), (by first | rfl | (simp; done) | (simp [*]; done)), (by first | rfl | (simp; done) | (simp [*]; done)), H', ⟨by have := HK1.out; omega⟩, ⟨by repeat (first | (with_reducible first | exact HB.out | apply below_alloc | apply pw_below_drewN | apply below_drew1) | exact HB.out)⟩⟩
      rw [if_neg c10] at H
      have c10b0 : (((rd_T29 l0 x5_1).f1).toList == t238.toList) = false := beq_eq_false_iff_ne.mpr c10
      have c10b1 : (((rd_T29 l0 x5_1).f1).toList != t238.toList) = true := bne_iff_ne.mpr c10
      (first | rw [c10b0] | (simp only [i64_w, i32_w]; rw [c10b0]) | simp only [c10b2, Bool.not_false, Bool.not_true] | skip)
      obtain rfl := Option.some.inj H
      go_wp2
      go_ret
      exact ⟨by first | rfl | (simp [errW_none, errW_some] <;> rfl) | (simp [*, errW_none, errW_some] <;> rfl), by repeat (first | (with_reducible first | exact HB.out | apply below_alloc | apply pw_below_drewN | apply below_drew1) | exact HB.out)⟩
     rw [if_neg c5] at H
     have c5b0 : (((rd_T29 l0 x5_1).f0) == x1_1) = false := beq_eq_false_iff_ne.mpr c5
     have c5b1 : (((rd_T29 l0 x5_1).f0) != x1_1) = true := bne_iff_ne.mpr c5
     obtain rfl := Option.some.inj H
     have p236 : 0 ≤ (x5_1 : Int) := of_decide_eq_true (by first | (with_reducible assumption) | assumption)
     have q236 : x5_1 < (l0.length : Int) := of_decide_eq_true (by first | (with_reducible assumption) | assumption)
     obtain ⟨ad236, e236, hx236_0, hx236_1⟩ := at_T29 HR0.out x5_1 p236 q236
     cases e236
     replace hx236_0 := bcl HB hx236_0
     replace hx236_1 := bcl HB hx236_1
     replace p236 := eq_true p236
     replace q236 := eq_true q236
     go_wp2
     go_ret
     exact ⟨by first | rfl | (simp [errW_none, errW_some] <;> rfl) | (simp [*, errW_none, errW_some] <;> rfl), by repeat (first | (with_reducible first | exact HB.out | apply below_alloc | apply pw_below_drewN | apply below_drew1) | exact HB.out)⟩
    rw [if_neg c4] at H
    exact absurd H (by simp)
   rw [if_neg c3] at H
   have c3b0 : decide (x5_1 < (l0.length : Int)) = false := decide_eq_false c3
   clear c3
   obtain rfl := Option.some.inj H
   go_wp2
   go_ret
   exact ⟨by first | rfl | (simp [errW_none, errW_some] <;> rfl) | (simp [*, errW_none, errW_some] <;> rfl), by repeat (first | (with_reducible first | exact HB.out | apply below_alloc | apply pw_below_drewN | apply below_drew1) | exact HB.out)⟩
end Go.Proofs.YtnbohlcibgfjaaaDoor.Gp
end
