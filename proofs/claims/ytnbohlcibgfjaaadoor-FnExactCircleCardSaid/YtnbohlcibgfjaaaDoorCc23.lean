/- A part of the proof of RowFnExactCircle: each text's theorems that it needs, packed by shake.py, a program of this work; Lean checks them. -/
import Derived.Test.YtnbohlcibgfjaaaDoorCc3
import Derived.Test.YtnbohlcibgfjaaaDoorCc21
import Derived.Test.YtnbohlcibgfjaaaDoorCc15
import Derived.Test.YtnbohlcibgfjaaaDoorCc20
import Derived.Test.YtnbohlcibgfjaaaDoorCc22
section
namespace Go.Proofs.YtnbohlcibgfjaaaDoor.Gp
open Go.RowKit Go.Proofs.YtnbohlcibgfjaaaDoorW.PrintWords Go.Proofs.YtnbohlcibgfjaaaDoorW.PrintLast Go.Proofs.YtnbohlcibgfjaaaDoorW.PrintMore
set_option linter.unusedVariables false
set_option linter.unusedSimpArgs false
abbrev WtT := S113
def wtF : List WtT → Int → S29 × Bool
  | [], _ => (⟨0, ⟨#[]⟩⟩, false)
  | x :: r, wk => if x.f0 = wk then (x.f1, true) else wtF r wk
theorem wtF_cons (x : WtT) (r : List WtT) (wk : Int) : wtF (x :: r) wk = if x.f0 = wk then (x.f1, true) else wtF r wk := rfl
theorem drop_wt (l : List WtT) (i : Nat) (hi : i < l.length) : l.drop i = rd_T113 l i :: l.drop (i + 1) := by
  rw [List.drop_eq_getElem_cons hi]
  unfold rd_T113
  rw [Int.toNat_natCast, List.getD_eq_getElem?_getD, List.getElem?_eq_getElem hi]
  rfl
set_option maxHeartbeats 8000000 in
set_option maxRecDepth 100000 in
theorem impl_rows_circle.waits (A : Option Addr) (c : Nat) (wl : List WtT) (gw : Nat) (wk : Int) (w : World) (hw : w.cell? ⟨gw, 0, none⟩ = some (.slice A wl.length c)) (hC : Kd.C k113 w A wl.length wl) (hl : wl.length ≤ 16) :
    Calls Tryd.prog 73 #[.int .i64 wk, .pointer (some ⟨gw, 0, none⟩)] w fun e w' => e = .returned (.tuple #[.agg #[.int .i64 (wtF wl wk).1.f0, .string (wtF wl wk).1.f1], .bool (wtF wl wk).2]) ∧ Below w.heap.size w w' := by
  have hu1 := Tryd.underlying113
  have hu2 := Tryd.underlying29
  have HR := Aside0.mk hC
  have HL := Aside0.mk hl
  obtain ⟨T, hT⟩ : ∃ T, T = wtF wl wk := ⟨_, rfl⟩
  rw [← hT]
  have HT := Aside0.mk hT
  have hw1 := pw_cell_below (below_alloc (Below.refl w.heap.size w) (.cells #[.int .i64 0, .string ⟨#[]⟩] 29)) hw
  clear hT hC hl hw
  go_enter Tryd.func73, Tryd.ntmps73
  go_wp2
  go_loopw [9] (fun i wr => ∃ k : Nat, k ≤ wl.length ∧ i = .int .i64 k ∧ Aside0 (wtF (wl.drop k) wk = T) ∧ Aside0 (wr.heap[w.heap.size]? = some (.cells #[.int .i64 0, .string ⟨#[]⟩] 29 (0, 0))) ∧ Aside0 (Below w.heap.size w wr)) (fun i _ => wl.length - (intOf i).toNat)
  case atStart => exact ⟨0, Nat.zero_le _, rfl, ⟨HT.out.symm⟩, ⟨blk_new _ _⟩, ⟨below_alloc (Below.refl _ _) _⟩⟩
  case round =>
    clear hw1
    obtain ⟨k, hk, rfl, HV, BK, HB⟩ := hrel
    by_cases hlt : k < wl.length
    · have p0 : 0 ≤ (k : Int) := by omega
      have q0 : (k : Int) < (wl.length : Int) := by omega
      have ql : decide (k < wl.length) = true := decide_eq_true hlt
      obtain ⟨ad, eA, hx0, hx1, hx2⟩ := at_T113 HR.out k p0 q0
      cases eA
      rw [Int.toNat_natCast] at hx0 hx1 hx2
      replace hx0 := (HB.out.cell (World.block_lt_of_cell? w _ hx0)).trans hx0
      replace hx1 := (HB.out.cell (World.block_lt_of_cell? w _ hx1)).trans hx1
      replace hx2 := (HB.out.cell (World.block_lt_of_cell? w _ hx2)).trans hx2
      have hv := HV.out
      rw [drop_wt wl k hlt, wtF_cons] at hv
      obtain ⟨s, hs⟩ : ∃ s, s = rd_T113 wl (k : Int) := ⟨_, rfl⟩
      rw [← hs] at hx0 hx1 hx2 hv
      clear hs
      have HWk := Aside0.mk (show wrap64 ((k : Int) + 1) = ((k + 1 : Nat) : Int) by have := HL.out; unfold wrap64; omega)
      by_cases c1 : s.f0 = wk
      · rw [if_pos c1] at hv
        have cE : (s.f0 == wk) = true := beq_iff_eq.2 c1
        have HV2 := Aside0.mk hv
        have nb : w.heap.size ≠ wr.heap.size := Nat.ne_of_lt (blk_lt BK.out)
        have nb2 := Ne.symm nb
        have BK2 := Aside0.mk (blk_alloc BK.out (.cells #[.int .i64 s.f0, .int .i64 s.f1.f0, .string s.f1.f1] 113))
        have HB2 := Aside0.mk (below_alloc HB.out (.cells #[.int .i64 s.f0, .int .i64 s.f1.f0, .string s.f1.f1] 113))
        have hy0 : (wr.alloc (.cells #[.int .i64 s.f0, .int .i64 s.f1.f0, .string s.f1.f1] 113)).cell? ⟨w.heap.size, 0, none⟩ = some (.int .i64 0) := (blk_cell BK2.out 0).trans rfl
        have hy1 : (wr.alloc (.cells #[.int .i64 s.f0, .int .i64 s.f1.f0, .string s.f1.f1] 113)).cell? ⟨w.heap.size, 1, none⟩ = some (.string ⟨#[]⟩) := (blk_cell BK2.out 1).trans rfl
        have hf0 := blk_frozen BK2.out 0
        have hf1 := blk_frozen BK2.out 1
        clear hv c1
        go_wp2
        refine bodyPost_ret (results_ct rfl _ _ w.heap.size 29 #[.int .i64 s.f1.f0, .string s.f1.f1] (0, 0) _ rfl (blk_put (cs := #[.int .i64 s.f1.f0, .string ⟨#[]⟩]) (blk_put BK2.out 0 _ rfl) 1 _ rfl) Tryd.underlying29 rfl (by kernel_rfl)) rfl ?_
        exact ⟨by rw [← HV2.out]; rfl, below_set (below_set HB2.out (Nat.le_refl _)) (Nat.le_refl _)⟩
      · rw [if_neg c1] at hv
        have cE : (s.f0 == wk) = false := beq_eq_false_iff_ne.2 c1
        have HV2 := Aside0.mk hv
        have BK2 := Aside0.mk (blk_alloc BK.out (.cells #[.int .i64 s.f0, .int .i64 s.f1.f0, .string s.f1.f1] 113))
        have HB2 := Aside0.mk (below_alloc HB.out (.cells #[.int .i64 s.f0, .int .i64 s.f1.f0, .string s.f1.f1] 113))
        clear hv c1
        go_wp2
        rw [HWk.out]
        go_roundw
        case rel => exact ⟨k + 1, by omega, rfl, HV2, BK2, HB2⟩
        case measure => simp [intOf]; omega
    · obtain rfl : k = wl.length := by omega
      have ql : decide (wl.length < wl.length) = false := decide_eq_false hlt
      have hv := HV.out
      rw [List.drop_length] at hv
      obtain rfl : (⟨0, ⟨#[]⟩⟩, false) = T := hv
      have hy0 : wr.cell? ⟨w.heap.size, 0, none⟩ = some (.int .i64 0) := (blk_cell BK.out 0).trans rfl
      have hy1 : wr.cell? ⟨w.heap.size, 1, none⟩ = some (.string ⟨#[]⟩) := (blk_cell BK.out 1).trans rfl
      have hf0 := blk_frozen BK.out 0
      have hf1 := blk_frozen BK.out 1
      clear hlt hk HV
      go_wp2
      refine bodyPost_ret (results_ct rfl _ _ w.heap.size 29 #[.int .i64 0, .string ⟨#[]⟩] (0, 0) _ rfl (blk_put (cs := #[.int .i64 0, .string ⟨#[]⟩]) (blk_put BK.out 0 _ rfl) 1 _ rfl) Tryd.underlying29 rfl (by kernel_rfl)) rfl ?_
      exact ⟨rfl, below_set (below_set HB.out (Nat.le_refl _)) (Nat.le_refl _)⟩
theorem find_range {k : Nat} {l : List RwT} {b0 : Int} {b1 : ByteArray} {i : Int} (h : impl_ordered_impl_Key_impl_row_find.f k l b0 b1 = some (some i)) : 0 ≤ i ∧ i < (l.length : Int) := by
  unfold impl_ordered_impl_Key_impl_row_find.f at h
  obtain ⟨p, _, h⟩ := Option.bind_eq_some_iff.mp h
  by_cases c : p.2 = true
  · rw [if_pos c] at h
    by_cases g : 0 ≤ p.1 ∧ p.1 < (l.length : Int)
    · rw [if_pos g] at h
      cases h
      exact g
    · rw [if_neg g] at h; cases h
  · rw [if_neg c] at h; cases h
def impl_rows_circle.f : Nat → List RwT → List WtT → Int → Int → Int → ByteArray → Int → Option Bool
  | 0, _, _, _, _, _, _, _ => none
  | k + 1, l, wl, wk, rev, b0, b1, n => if 0 ≤ n ∧ n ≤ 17 then (if n < 17 then (impl_ordered_impl_Key_impl_row_find.f k l b0 b1).bind fun o => (match o with
      | none => some false
      | some i => if (rd_T101 l i).f1 = 0 then some false else if (rd_T101 l i).f0.f1 = rev then (if (rd_T101 l i).f1 = wrap64 (wk + 1) then some true else (if (wtF wl (wrap64 ((rd_T101 l i).f1 - 1))).2 = true then impl_rows_circle.f k l wl wk rev (wtF wl (wrap64 ((rd_T101 l i).f1 - 1))).1.f0 (wtF wl (wrap64 ((rd_T101 l i).f1 - 1))).1.f1 (n + 1) else some false)) else some false) else some false) else none
set_option maxHeartbeats 16000000 in
set_option maxRecDepth 100000 in
theorem impl_rows_circle.circle (k : Nat) (g : Nat) (A : Option Addr) (c : Nat) (l : List RwT) (gw : Nat) (Aw : Option Addr) (cw : Nat) (wl : List WtT) (wk b0 : Int) (b1 : ByteArray) (rev : Int) (r : Bool) (w : World) (hO : OrdAt w g A c l)
    (hw : w.cell? ⟨gw, 0, none⟩ = some (.slice Aw wl.length cw)) (hC : Kd.C k113 w Aw wl.length wl) (hl : wl.length ≤ 16) (h : impl_rows_circle.f k l wl wk rev b0 b1 0 = some r) :
    Calls Tryd.prog 72 #[.pointer (some ⟨g, 0, none⟩), .func (.func 73) #[] #[.pointer (some ⟨gw, 0, none⟩)], .int .i64 wk, .agg #[.int .i64 b0, .string b1], .int .i64 rev] w fun e w' => e = .returned (.bool r) ∧ Below w.heap.size w w' := by
  have hu1 := Tryd.underlying101
  have hu2 := Tryd.underlying29
  have hu3 := Tryd.underlying99
  have hu4 := Tryd.underlying95
  have hu5 := Tryd.underlying97
  have HO := Aside0.mk hO
  have HW := Aside0.mk hw
  have HC := Aside0.mk hC
  have HL := Aside0.mk hl
  have H := Aside0.mk h
  clear hO hw hC hl h
  go_enter Tryd.func72, Tryd.ntmps72
  go_wp2
  go_loopg [14] k (fun kq v14 w' => ∃ (n b0' : Int) (b1' : ByteArray), v14 = .int .i64 n ∧ Aside0 (impl_rows_circle.f kq l wl wk rev b0' b1' n = some r) ∧ Aside0 (kq ≤ k) ∧ Aside0 (w'.heap[w.heap.size]? = some (.cells #[.int .i64 b0', .string b1'] 29 (0, 0))) ∧ Aside0 (Below w.heap.size w w'))
  case atStart => exact ⟨0, b0, b1, rfl, H, ⟨Nat.le_refl _⟩, ⟨blk_new _ _⟩, ⟨below_alloc (Below.refl _ _) _⟩⟩
  case round =>
    clear H
    obtain ⟨n, y0, y1, rfl, HA, HK, BK, HB⟩ := hrel
    cases gk with
    | zero => exact absurd HA.out (by simp [impl_rows_circle.f])
    | succ k1 =>
      have ha := HA.out
      clear HA
      simp only [impl_rows_circle.f] at ha
      by_cases gd : 0 ≤ n ∧ n ≤ 17
      case neg => rw [if_neg gd] at ha; cases ha
      rw [if_pos gd] at ha
      have HN := Aside0.mk (show wrap64 (n + 1) = n + 1 by unfold wrap64; omega)
      have GD := Aside0.mk gd
      by_cases c1 : n < 17
      · rw [if_pos c1] at ha
        have c1b : decide (n < 17) = true := decide_eq_true c1
        obtain ⟨o, ho, ha⟩ := Option.bind_eq_some_iff.mp ha
        have HF := Aside0.mk ho
        have hy0 : wr.cell? ⟨w.heap.size, 0, none⟩ = some (.int .i64 y0) := (blk_cell BK.out 0).trans rfl
        have hy1 : wr.cell? ⟨w.heap.size, 1, none⟩ = some (.string y1) := (blk_cell BK.out 1).trans rfl
        clear ho gd c1
        cases o with
        | none =>
          obtain rfl := Option.some.inj ha
          clear ha
          have eP : ptrRow A none = .pointer none := by cases A <;> rfl
          go_wp2
          refine start_ (n := 6) (S := fun w' => w'.cell? ⟨w.heap.size, 0, none⟩ = some (.int .i64 y0) ∧ w'.cell? ⟨w.heap.size, 1, none⟩ = some (.string y1)) (ds := []) #[false, false, false, false, false, false] (by kernel_rfl) rfl rfl ⟨hy0, hy1⟩ (fun hHeld => ?_)
          refine pure_ (i := 0) (N := some 16) (v := ?_) (a' := ?_) #[true, false, false, false, false, false] rfl rfl (by kernel_rfl) (fun _ _ _ h => h) (Or.inl ⟨by rfl, ?_⟩) ?_ ?_
          rotate_left
          · intro w'
            go_simp
            with_reducible rfl
          rotate_left
          · simp only [Act.put, List.setIfInBounds_toArray, List.set_cons_zero, List.set_cons_succ, i64_w, i32_w]
            rfl
          refine pure_ (i := 1) (N := some 17) (v := ?_) (a' := ?_) #[true, true, false, false, false, false] rfl rfl (by kernel_rfl) (fun _ _ _ h => h) (Or.inl ⟨by rfl, ?_⟩) ?_ ?_
          rotate_left
          · intro w'
            go_simp
            with_reducible rfl
          rotate_left
          · simp only [Act.put, List.setIfInBounds_toArray, List.set_cons_zero, List.set_cons_succ, i64_w, i32_w]
            rfl
          refine pure_ (i := 2) (N := some 18) (v := ?_) (a' := ?_) #[true, true, true, false, false, false] rfl rfl (by kernel_rfl) (fun _ _ _ h => h) (Or.inl ⟨by rfl, ?_⟩) ?_ ?_
          rotate_left
          · intro w'
            go_simp
            with_reducible rfl
          rotate_left
          · simp only [Act.put, List.setIfInBounds_toArray, List.set_cons_zero, List.set_cons_succ, i64_w, i32_w]
            rfl
          refine take_ (i := 3) (N := some 19) (v := ?_) (a' := ?_) #[true, true, true, true, false, false] rfl rfl (by kernel_rfl) (fun _ _ _ h => h) (Or.inl ⟨by rfl, ?_⟩) hHeld ?_ ?_
          rotate_left
          · rintro w' ⟨s0, s1⟩
            go_simp
            with_reducible rfl
          rotate_left
          · simp only [Act.put, List.setIfInBounds_toArray, List.set_cons_zero, List.set_cons_succ, i64_w, i32_w]
            rfl
          refine one_ (i := 4) (N := some 20) #[true, true, true, true, true, false] rfl rfl (by kernel_rfl) (by decide) (fun K hK => ?_)
          refine goes_ Tryd.func59 rfl rfl #[.pointer (some ⟨g, 0, none⟩), .agg #[.int .i64 y0, .string y1]] rfl rfl rfl (by (try simp only [List.map_toArray, List.map_cons, List.map_nil, List.append_toArray, List.append_nil, List.nil_append, List.cons_append]); rfl) ?_
          refine (impl_ordered_impl_Key_impl_row_find.find k1 _ c l y0 y1 g none _ (HO.out.keep (below_drew1 HB.out)) HF.out).mono ?_
          rintro e w6 ⟨rfl, hb6, _⟩
          refine ⟨_, rfl, ?_⟩
          rw [eP]
          refine hK.out _ _ ⟨pw_cell_below hb6 hHeld.1, pw_cell_below hb6 hHeld.2⟩ (fun hHeld => ?_)
          clear hK K
          refine norm_ (a' := ?_) ?_ ?_
          rotate_left
          · show Act.put _ (some 20) _ = _
            simp only [Act.put, List.setIfInBounds_toArray, List.set_cons_zero, List.set_cons_succ, i64_w, i32_w]
            rfl
          have HB6 : Aside0 (Below w.heap.size w w6) := ⟨below_step (below_drew1 HB.out) hb6⟩
          have BK6 := Aside0.mk (blk_below (blk_drew BK.out) hb6)
          clear hb6
          refine pure_ (i := 5) (N := some 11) (v := ?_) (a' := ?_) #[true, true, true, true, true, true] rfl rfl (by kernel_rfl) (fun _ _ _ h => h) (Or.inl ⟨by rfl, ?_⟩) ?_ ?_
          rotate_left
          · intro w'
            go_simp
            with_reducible rfl
          rotate_left
          · simp only [Act.put, List.setIfInBounds_toArray, List.set_cons_zero, List.set_cons_succ, i64_w, i32_w]
            rfl
          refine done_ (by kernel_rfl) ?_
          go_wp2
          go_ret
          exact ⟨rfl, HB6.out⟩
        | some i =>
          obtain ⟨gi0, gi1⟩ := find_range HF.out
          obtain ⟨ad, A6, c6, eA, hx0, hx1, hx2, hx3, hx4, hx5, hx6, hx7, hx8, _⟩ := at_T101 HO.out.hr i gi0 gi1
          cases eA
          clear hx0 hx1 hx4 hx5 hx6 hx7 hx8 gi0 gi1
          have HX2 := Aside0.mk hx2
          have HX3 := Aside0.mk hx3
          clear hx2 hx3
          have ha' : (if (rd_T101 l i).f1 = 0 then some false else if (rd_T101 l i).f0.f1 = rev then (if (rd_T101 l i).f1 = wrap64 (wk + 1) then some true else (if (wtF wl (wrap64 ((rd_T101 l i).f1 - 1))).2 = true then impl_rows_circle.f k1 l wl wk rev (wtF wl (wrap64 ((rd_T101 l i).f1 - 1))).1.f0 (wtF wl (wrap64 ((rd_T101 l i).f1 - 1))).1.f1 (n + 1) else some false)) else some false) = some r := ha
          clear ha
          generalize (rd_T101 l i) = x at HX2 HX3 ha'
          have ha := Aside0.mk ha'
          clear ha'
          go_wp2
          refine start_ (n := 6) (S := fun w' => w'.cell? ⟨w.heap.size, 0, none⟩ = some (.int .i64 y0) ∧ w'.cell? ⟨w.heap.size, 1, none⟩ = some (.string y1)) (ds := []) #[false, false, false, false, false, false] (by kernel_rfl) rfl rfl ⟨hy0, hy1⟩ (fun hHeld => ?_)
          refine pure_ (i := 0) (N := some 16) (v := ?_) (a' := ?_) #[true, false, false, false, false, false] rfl rfl (by kernel_rfl) (fun _ _ _ h => h) (Or.inl ⟨by rfl, ?_⟩) ?_ ?_
          rotate_left
          · intro w'
            go_simp
            with_reducible rfl
          rotate_left
          · simp only [Act.put, List.setIfInBounds_toArray, List.set_cons_zero, List.set_cons_succ, i64_w, i32_w]
            rfl
          refine pure_ (i := 1) (N := some 17) (v := ?_) (a' := ?_) #[true, true, false, false, false, false] rfl rfl (by kernel_rfl) (fun _ _ _ h => h) (Or.inl ⟨by rfl, ?_⟩) ?_ ?_
          rotate_left
          · intro w'
            go_simp
            with_reducible rfl
          rotate_left
          · simp only [Act.put, List.setIfInBounds_toArray, List.set_cons_zero, List.set_cons_succ, i64_w, i32_w]
            rfl
          refine pure_ (i := 2) (N := some 18) (v := ?_) (a' := ?_) #[true, true, true, false, false, false] rfl rfl (by kernel_rfl) (fun _ _ _ h => h) (Or.inl ⟨by rfl, ?_⟩) ?_ ?_
          rotate_left
          · intro w'
            go_simp
            with_reducible rfl
          rotate_left
          · simp only [Act.put, List.setIfInBounds_toArray, List.set_cons_zero, List.set_cons_succ, i64_w, i32_w]
            rfl
          refine take_ (i := 3) (N := some 19) (v := ?_) (a' := ?_) #[true, true, true, true, false, false] rfl rfl (by kernel_rfl) (fun _ _ _ h => h) (Or.inl ⟨by rfl, ?_⟩) hHeld ?_ ?_
          rotate_left
          · rintro w' ⟨s0, s1⟩
            go_simp
            with_reducible rfl
          rotate_left
          · simp only [Act.put, List.setIfInBounds_toArray, List.set_cons_zero, List.set_cons_succ, i64_w, i32_w]
            rfl
          refine one_ (i := 4) (N := some 20) #[true, true, true, true, true, false] rfl rfl (by kernel_rfl) (by decide) (fun K hK => ?_)
          refine goes_ Tryd.func59 rfl rfl #[.pointer (some ⟨g, 0, none⟩), .agg #[.int .i64 y0, .string y1]] rfl rfl rfl (by (try simp only [List.map_toArray, List.map_cons, List.map_nil, List.append_toArray, List.append_nil, List.nil_append, List.cons_append]); rfl) ?_
          refine (impl_ordered_impl_Key_impl_row_find.find k1 _ c l y0 y1 g (some i) _ (HO.out.keep (below_drew1 HB.out)) HF.out).mono ?_
          rintro e w6 ⟨rfl, hb6, _⟩
          refine ⟨_, rfl, ?_⟩
          rw [show ptrRow (some ad) (some i) = .pointer (some (ad.add (i.toNat * 9))) from rfl]
          refine hK.out _ _ ⟨pw_cell_below hb6 hHeld.1, pw_cell_below hb6 hHeld.2⟩ (fun hHeld => ?_)
          clear hK K
          refine norm_ (a' := ?_) ?_ ?_
          rotate_left
          · show Act.put _ (some 20) _ = _
            simp only [Act.put, List.setIfInBounds_toArray, List.set_cons_zero, List.set_cons_succ, i64_w, i32_w]
            rfl
          have HB6 : Aside0 (Below w.heap.size w w6) := ⟨below_step (below_drew1 HB.out) hb6⟩
          have BK6 := Aside0.mk (blk_below (blk_drew BK.out) hb6)
          clear hb6
          refine pure_ (i := 5) (N := some 11) (v := ?_) (a' := ?_) #[true, true, true, true, true, true] rfl rfl (by kernel_rfl) (fun _ _ _ h => h) (Or.inl ⟨by rfl, ?_⟩) ?_ ?_
          rotate_left
          · intro w'
            go_simp
            with_reducible rfl
          rotate_left
          · simp only [Act.put, List.setIfInBounds_toArray, List.set_cons_zero, List.set_cons_succ, i64_w, i32_w]
            rfl
          refine done_ (by kernel_rfl) ?_
          clear hHeld hy0 hy1
          have hx2 := pw_cell_below HB6.out HX2.out
          have hx3 := pw_cell_below HB6.out HX3.out
          have ha' := ha.out
          by_cases c2 : x.f1 = 0
          · rw [if_pos c2] at ha'
            obtain rfl := Option.some.inj ha'
            have cE2 : (x.f1 == 0) = true := beq_iff_eq.2 c2
            clear ha ha' c2
            go_wp2
            go_ret
            exact ⟨rfl, HB6.out⟩
          rw [if_neg c2] at ha'
          have cE2 : (x.f1 == 0) = false := beq_eq_false_iff_ne.2 c2
          by_cases c3 : x.f0.f1 = rev
          case neg =>
            rw [if_neg c3] at ha'
            obtain rfl := Option.some.inj ha'
            have cE3 : (x.f0.f1 != rev) = true := bne_iff_ne.2 c3
            clear ha ha' c2 c3
            go_wp2
            go_ret
            exact ⟨rfl, HB6.out⟩
          rw [if_pos c3] at ha'
          have cE3 : (x.f0.f1 != rev) = false := bne_eq_false_iff_eq.2 c3
          by_cases c4 : x.f1 = wrap64 (wk + 1)
          · rw [if_pos c4] at ha'
            obtain rfl := Option.some.inj ha'
            have cE4 : (x.f1 == wrap64 (wk + 1)) = true := beq_iff_eq.2 c4
            clear ha ha' c2 c3 c4
            go_wp2
            go_ret
            exact ⟨rfl, HB6.out⟩
          rw [if_neg c4] at ha'
          have cE4 : (x.f1 == wrap64 (wk + 1)) = false := beq_eq_false_iff_ne.2 c4
          clear ha c2 c3 c4
          obtain ⟨T, hT⟩ : ∃ T, T = wtF wl (wrap64 (x.f1 - 1)) := ⟨_, rfl⟩
          rw [← hT] at ha'
          have HT := Aside0.mk hT
          have ha := Aside0.mk ha'
          clear hT ha'
          have HW6 := pw_cell_below HB6.out HW.out
          cases hT2 : T.2
          case false =>
            have ha' := ha.out
            rw [hT2, if_neg (by decide)] at ha'
            obtain rfl := Option.some.inj ha'
            have HT2 := Aside0.mk hT2
            clear ha ha' hT2
            go_wp2_with (go_at_call 73; refine (impl_rows_circle.waits Aw cw wl gw (wrap64 (x.f1 - 1)) _ HW6 (Kd.C_below HC.out HB6.out) HL.out).mono ?_; rintro e w7 ⟨rfl, hb7⟩; rw [← HT.out, HT2.out]; have HB7 : Aside0 (Below w.heap.size w (w7.alloc (.cells #[.int .i64 T.1.f0, .string T.1.f1] 29))) := ⟨below_alloc (below_step HB6.out hb7) _⟩; have BK7 : Aside0 ((w7.alloc (.cells #[.int .i64 T.1.f0, .string T.1.f1] 29)).heap[w.heap.size]? = some (.cells #[.int .i64 y0, .string y1] 29 (0, 0))) := ⟨blk_alloc (blk_below BK6.out hb7) _⟩; have hz0 : (w7.alloc (.cells #[.int .i64 T.1.f0, .string T.1.f1] 29)).cell? ⟨w.heap.size, 0, none⟩ = some (.int .i64 y0) := (blk_cell BK7.out 0).trans rfl; have hz1 : (w7.alloc (.cells #[.int .i64 T.1.f0, .string T.1.f1] 29)).cell? ⟨w.heap.size, 1, none⟩ = some (.string y1) := (blk_cell BK7.out 1).trans rfl; have hf0 := blk_frozen BK7.out 0; have hf1 := blk_frozen BK7.out 1; have nb : w.heap.size ≠ w7.heap.size := Nat.ne_of_lt (blk_lt (blk_below BK6.out hb7)); have nb2 := Ne.symm nb; clear hb7)
            go_ret
            exact ⟨rfl, HB7.out⟩
          case true =>
            have ha' := ha.out
            rw [hT2, if_pos rfl] at ha'
            have HA := Aside0.mk ha'
            have HT2 := Aside0.mk hT2
            clear ha ha' hT2
            go_wp2_with (go_at_call 73; refine (impl_rows_circle.waits Aw cw wl gw (wrap64 (x.f1 - 1)) _ HW6 (Kd.C_below HC.out HB6.out) HL.out).mono ?_; rintro e w7 ⟨rfl, hb7⟩; rw [← HT.out, HT2.out]; have HB7 : Aside0 (Below w.heap.size w (w7.alloc (.cells #[.int .i64 T.1.f0, .string T.1.f1] 29))) := ⟨below_alloc (below_step HB6.out hb7) _⟩; have BK7 : Aside0 ((w7.alloc (.cells #[.int .i64 T.1.f0, .string T.1.f1] 29)).heap[w.heap.size]? = some (.cells #[.int .i64 y0, .string y1] 29 (0, 0))) := ⟨blk_alloc (blk_below BK6.out hb7) _⟩; have hz0 : (w7.alloc (.cells #[.int .i64 T.1.f0, .string T.1.f1] 29)).cell? ⟨w.heap.size, 0, none⟩ = some (.int .i64 y0) := (blk_cell BK7.out 0).trans rfl; have hz1 : (w7.alloc (.cells #[.int .i64 T.1.f0, .string T.1.f1] 29)).cell? ⟨w.heap.size, 1, none⟩ = some (.string y1) := (blk_cell BK7.out 1).trans rfl; have hf0 := blk_frozen BK7.out 0; have hf1 := blk_frozen BK7.out 1; have nb : w.heap.size ≠ w7.heap.size := Nat.ne_of_lt (blk_lt (blk_below BK6.out hb7)); have nb2 := Ne.symm nb; clear hb7)
            rw [HN.out]
            go_roundg k1
            case measure => have := HK.out; omega
            case rel => exact ⟨n + 1, T.1.f0, T.1.f1, rfl, HA, ⟨by have := HK.out; omega⟩, ⟨blk_put (cs := #[.int .i64 T.1.f0, .string y1]) (blk_put BK7.out 0 _ rfl) 1 _ rfl⟩, ⟨below_set (below_set HB7.out (Nat.le_refl _)) (Nat.le_refl _)⟩⟩
      · rw [if_neg c1] at ha
        obtain rfl := Option.some.inj ha
        have c1b : decide (n < 17) = false := decide_eq_false c1
        clear ha gd c1
        go_wp2
        go_ret
        exact ⟨rfl, HB.out⟩
end Go.Proofs.YtnbohlcibgfjaaaDoor.Gp
end
section
namespace Go.Proofs.YtnbohlcibgfjaaaDoor.Gp
open Go.RowKit Go.Proofs.YtnbohlcibgfjaaaDoorW.PrintWords Go.Proofs.YtnbohlcibgfjaaaDoorW.PrintLast Go.Proofs.YtnbohlcibgfjaaaDoorW.PrintMore
set_option linter.unusedVariables false
set_option linter.unusedSimpArgs false
structure CirBx (w0 W : World) (A0 : Option Addr) (n0 c0 : Nat) (A1 : Option Addr) (n1 c1 : Nat) (b0 : Int) (b1 : ByteArray) : Prop where
  h0 : W.heap[w0.heap.size]? = some (.cells #[.slice A0 n0 c0] 36 (0, 0))
  h1 : W.heap[w0.heap.size + 1]? = some (.cells #[.slice A1 n1 c1] 47 (0, 0))
  h2 : W.heap[w0.heap.size + 1 + 1]? = some (.cells #[.int .i64 b0, .string b1] 29 (0, 0))
  bel : Below w0.heap.size w0 W
theorem CirBx.keep {w0 W W1 : World} {A0 : Option Addr} {n0 c0 : Nat} {A1 : Option Addr} {n1 c1 : Nat} {b0 : Int} {b1 : ByteArray} (h : CirBx w0 W A0 n0 c0 A1 n1 c1 b0 b1) (b : Below W.heap.size W W1) : CirBx w0 W1 A0 n0 c0 A1 n1 c1 b0 b1 :=
  ⟨blk_below h.h0 b, blk_below h.h1 b, blk_below h.h2 b, below_step h.bel b⟩
theorem CirBx.init (w : World) (A0 : Option Addr) (n0 c0 : Nat) (A1 : Option Addr) (n1 c1 : Nat) (b0 : Int) (b1 : ByteArray) : CirBx w (((w.alloc (.cells #[.slice A0 n0 c0] 36)).alloc (.cells #[.slice A1 n1 c1] 47)).alloc (.cells #[.int .i64 b0, .string b1] 29)) A0 n0 c0 A1 n1 c1 b0 b1 :=
  ⟨blk_alloc (blk_alloc (blk_new w _) _) _, blk_alloc (blk_new_at (by simp)) _, blk_new_at (by simp), by repeat (first | exact Below.refl _ _ | apply below_alloc)⟩
def impl_Circle.f (k : Nat) (l0 : List S32) (l1 : List WtT) (a2 b0 : Int) (b1 : ByteArray) (rev : Int) : Option Bool :=
  (impl_ValidTable.f k l0).bind fun t1 => (impl_Key_valid.f b0 b1).bind fun t2 => (impl_workerOk.f a2).bind fun t3 => (if t1 = true then (if t2 = true then (if t3 = true then (if rev < 1 then some false else (if (l1.length : Int) > 16 then some false else (impl_Table_rows.f l0).bind fun L => impl_rows_circle.f k L l1 a2 rev b0 b1 0)) else some false) else some false) else some false)
set_option maxHeartbeats 16000000 in
set_option maxRecDepth 100000 in
theorem impl_Circle.calls (k : Nat) (A0_0 : Option Addr) (c0_0 : Nat) (l0_0 : List S32) (A1 : Option Addr) (c1 : Nat) (l1 : List WtT) (a2 : Int) (a3_0 : Int) (a3_1 : ByteArray) (a4 : Int) (r : Bool) (w : World) (hG : GRes w) (hr0_0 : Kd.C k32 w A0_0 l0_0.length l0_0) (hc0_0 : l0_0.length ≤ c0_0) (hr1 : Kd.C k113 w A1 l1.length l1) (hc1 : l1.length ≤ c1) (h : impl_Circle.f k l0_0 l1 a2 a3_0 a3_1 a4 = some r) :
    Calls Tryd.prog 27 #[.agg #[.slice A0_0 l0_0.length c0_0], .slice A1 l1.length c1, .int .i64 a2, .agg #[.int .i64 a3_0, .string a3_1], .int .i64 a4] w fun e w' => e = .returned (.bool r) ∧ Below w.heap.size w w' := by
  have hu1 := Tryd.underlying36
  have hu2 := Tryd.underlying29
  unfold impl_Circle.f at h
  obtain ⟨t1, ht1, h⟩ := Option.bind_eq_some_iff.mp h
  obtain ⟨t2, ht2, h⟩ := Option.bind_eq_some_iff.mp h
  obtain ⟨t3, ht3, h⟩ := Option.bind_eq_some_iff.mp h
  have HG := Aside0.mk hG
  have HR0 := Aside0.mk hr0_0
  have HC0 := Aside0.mk hc0_0
  have HR1 := Aside0.mk hr1
  have H := Aside0.mk h
  have H1 := Aside0.mk ht1
  have H2 := Aside0.mk ht2
  have H3 := Aside0.mk ht3
  have BX0 := Aside0.mk (CirBx.init w A0_0 l0_0.length c0_0 A1 l1.length c1 a3_0 a3_1)
  clear hG hr0_0 hc0_0 hr1 hc1 h ht1 ht2 ht3
  have h := H.out
  clear H
  cases t1 with
  | false =>
    rw [if_neg (by decide)] at h
    obtain rfl := Option.some.inj h
    clear h
    go_enter Tryd.func27, Tryd.ntmps27
    go_wp2_with (first | (go_at_call 44; refine (impl_ValidTable.calls k A0_0 c0_0 l0_0 _ _ (GRes.below HG.out BX0.out.bel) (Kd.C_below HR0.out BX0.out.bel) HC0.out H1.out).mono ?_; rintro e w6 ⟨rfl, hb6⟩; have BX6 := Aside0.mk (BX0.out.keep hb6); have h6a : w6.cell? ⟨w.heap.size + 1 + 1, 0, none⟩ = some (.int .i64 a3_0) := (blk_cell BX6.out.h2 0).trans rfl; have h6b : w6.cell? ⟨w.heap.size + 1 + 1, 1, none⟩ = some (.string a3_1) := (blk_cell BX6.out.h2 1).trans rfl; have h6c : w6.cell? ⟨w.heap.size + 1, 0, none⟩ = some (.slice A1 l1.length c1) := (blk_cell BX6.out.h1 0).trans rfl; clear hb6))
    go_ret
    exact ⟨rfl, BX6.out.bel⟩
  | true =>
    rw [if_pos rfl] at h
    cases t2 with
    | false =>
      rw [if_neg (by decide)] at h
      obtain rfl := Option.some.inj h
      clear h
      go_enter Tryd.func27, Tryd.ntmps27
      go_wp2_with (first | (go_at_call 44; refine (impl_ValidTable.calls k A0_0 c0_0 l0_0 _ _ (GRes.below HG.out BX0.out.bel) (Kd.C_below HR0.out BX0.out.bel) HC0.out H1.out).mono ?_; rintro e w6 ⟨rfl, hb6⟩; have BX6 := Aside0.mk (BX0.out.keep hb6); have h6a : w6.cell? ⟨w.heap.size + 1 + 1, 0, none⟩ = some (.int .i64 a3_0) := (blk_cell BX6.out.h2 0).trans rfl; have h6b : w6.cell? ⟨w.heap.size + 1 + 1, 1, none⟩ = some (.string a3_1) := (blk_cell BX6.out.h2 1).trans rfl; have h6c : w6.cell? ⟨w.heap.size + 1, 0, none⟩ = some (.slice A1 l1.length c1) := (blk_cell BX6.out.h1 0).trans rfl; clear hb6) | (go_at_call 70; refine (impl_Key_valid.calls a3_0 a3_1 _ _ (GRes.below HG.out BX6.out.bel) H2.out).mono ?_; rintro e w7 ⟨rfl, hb7⟩; have BX7 := Aside0.mk (BX6.out.keep hb7); have h7a : w7.cell? ⟨w.heap.size + 1 + 1, 0, none⟩ = some (.int .i64 a3_0) := (blk_cell BX7.out.h2 0).trans rfl; have h7b : w7.cell? ⟨w.heap.size + 1 + 1, 1, none⟩ = some (.string a3_1) := (blk_cell BX7.out.h2 1).trans rfl; have h7c : w7.cell? ⟨w.heap.size + 1, 0, none⟩ = some (.slice A1 l1.length c1) := (blk_cell BX7.out.h1 0).trans rfl; clear hb7))
      go_ret
      exact ⟨rfl, BX7.out.bel⟩
    | true =>
      rw [if_pos rfl] at h
      cases t3 with
      | false =>
        rw [if_neg (by decide)] at h
        obtain rfl := Option.some.inj h
        clear h
        go_enter Tryd.func27, Tryd.ntmps27
        go_wp2_with (first | (go_at_call 44; refine (impl_ValidTable.calls k A0_0 c0_0 l0_0 _ _ (GRes.below HG.out BX0.out.bel) (Kd.C_below HR0.out BX0.out.bel) HC0.out H1.out).mono ?_; rintro e w6 ⟨rfl, hb6⟩; have BX6 := Aside0.mk (BX0.out.keep hb6); have h6a : w6.cell? ⟨w.heap.size + 1 + 1, 0, none⟩ = some (.int .i64 a3_0) := (blk_cell BX6.out.h2 0).trans rfl; have h6b : w6.cell? ⟨w.heap.size + 1 + 1, 1, none⟩ = some (.string a3_1) := (blk_cell BX6.out.h2 1).trans rfl; have h6c : w6.cell? ⟨w.heap.size + 1, 0, none⟩ = some (.slice A1 l1.length c1) := (blk_cell BX6.out.h1 0).trans rfl; clear hb6) | (go_at_call 70; refine (impl_Key_valid.calls a3_0 a3_1 _ _ (GRes.below HG.out BX6.out.bel) H2.out).mono ?_; rintro e w7 ⟨rfl, hb7⟩; have BX7 := Aside0.mk (BX6.out.keep hb7); have h7a : w7.cell? ⟨w.heap.size + 1 + 1, 0, none⟩ = some (.int .i64 a3_0) := (blk_cell BX7.out.h2 0).trans rfl; have h7b : w7.cell? ⟨w.heap.size + 1 + 1, 1, none⟩ = some (.string a3_1) := (blk_cell BX7.out.h2 1).trans rfl; have h7c : w7.cell? ⟨w.heap.size + 1, 0, none⟩ = some (.slice A1 l1.length c1) := (blk_cell BX7.out.h1 0).trans rfl; clear hb7) | (go_at_call 71; refine (impl_workerOk.calls a2 _ _ H3.out).mono ?_; rintro e w8 ⟨rfl, hd8⟩; have BX8 := Aside0.mk (show CirBx w w8 A0_0 l0_0.length c0_0 A1 l1.length c1 a3_0 a3_1 by obtain ⟨nd, rfl⟩ := hd8; exact BX7.out.keep (pw_below_drewN (Below.refl _ _) nd)); have h8a : w8.cell? ⟨w.heap.size + 1 + 1, 0, none⟩ = some (.int .i64 a3_0) := (blk_cell BX8.out.h2 0).trans rfl; have h8b : w8.cell? ⟨w.heap.size + 1 + 1, 1, none⟩ = some (.string a3_1) := (blk_cell BX8.out.h2 1).trans rfl; have h8c : w8.cell? ⟨w.heap.size + 1, 0, none⟩ = some (.slice A1 l1.length c1) := (blk_cell BX8.out.h1 0).trans rfl; clear hd8))
        go_ret
        exact ⟨rfl, BX8.out.bel⟩
      | true =>
        rw [if_pos rfl] at h
        by_cases c1' : a4 < 1
        · rw [if_pos c1'] at h
          obtain rfl := Option.some.inj h
          have cb1 : decide (a4 < 1) = true := decide_eq_true c1'
          clear h c1'
          go_enter Tryd.func27, Tryd.ntmps27
          go_wp2_with (first | (go_at_call 44; refine (impl_ValidTable.calls k A0_0 c0_0 l0_0 _ _ (GRes.below HG.out BX0.out.bel) (Kd.C_below HR0.out BX0.out.bel) HC0.out H1.out).mono ?_; rintro e w6 ⟨rfl, hb6⟩; have BX6 := Aside0.mk (BX0.out.keep hb6); have h6a : w6.cell? ⟨w.heap.size + 1 + 1, 0, none⟩ = some (.int .i64 a3_0) := (blk_cell BX6.out.h2 0).trans rfl; have h6b : w6.cell? ⟨w.heap.size + 1 + 1, 1, none⟩ = some (.string a3_1) := (blk_cell BX6.out.h2 1).trans rfl; have h6c : w6.cell? ⟨w.heap.size + 1, 0, none⟩ = some (.slice A1 l1.length c1) := (blk_cell BX6.out.h1 0).trans rfl; clear hb6) | (go_at_call 70; refine (impl_Key_valid.calls a3_0 a3_1 _ _ (GRes.below HG.out BX6.out.bel) H2.out).mono ?_; rintro e w7 ⟨rfl, hb7⟩; have BX7 := Aside0.mk (BX6.out.keep hb7); have h7a : w7.cell? ⟨w.heap.size + 1 + 1, 0, none⟩ = some (.int .i64 a3_0) := (blk_cell BX7.out.h2 0).trans rfl; have h7b : w7.cell? ⟨w.heap.size + 1 + 1, 1, none⟩ = some (.string a3_1) := (blk_cell BX7.out.h2 1).trans rfl; have h7c : w7.cell? ⟨w.heap.size + 1, 0, none⟩ = some (.slice A1 l1.length c1) := (blk_cell BX7.out.h1 0).trans rfl; clear hb7) | (go_at_call 71; refine (impl_workerOk.calls a2 _ _ H3.out).mono ?_; rintro e w8 ⟨rfl, hd8⟩; have BX8 := Aside0.mk (show CirBx w w8 A0_0 l0_0.length c0_0 A1 l1.length c1 a3_0 a3_1 by obtain ⟨nd, rfl⟩ := hd8; exact BX7.out.keep (pw_below_drewN (Below.refl _ _) nd)); have h8a : w8.cell? ⟨w.heap.size + 1 + 1, 0, none⟩ = some (.int .i64 a3_0) := (blk_cell BX8.out.h2 0).trans rfl; have h8b : w8.cell? ⟨w.heap.size + 1 + 1, 1, none⟩ = some (.string a3_1) := (blk_cell BX8.out.h2 1).trans rfl; have h8c : w8.cell? ⟨w.heap.size + 1, 0, none⟩ = some (.slice A1 l1.length c1) := (blk_cell BX8.out.h1 0).trans rfl; clear hd8))
          go_ret
          exact ⟨rfl, BX8.out.bel⟩
        rw [if_neg c1'] at h
        have cb1 : decide (a4 < 1) = false := decide_eq_false c1'
        by_cases c2' : (l1.length : Int) > 16
        · rw [if_pos c2'] at h
          obtain rfl := Option.some.inj h
          have cb2 : decide (16 < (l1.length : Int)) = true := decide_eq_true c2'
          have cb3 : decide (16 < l1.length) = true := decide_eq_true (by omega)
          clear h c1' c2'
          go_enter Tryd.func27, Tryd.ntmps27
          go_wp2_with (first | (go_at_call 44; refine (impl_ValidTable.calls k A0_0 c0_0 l0_0 _ _ (GRes.below HG.out BX0.out.bel) (Kd.C_below HR0.out BX0.out.bel) HC0.out H1.out).mono ?_; rintro e w6 ⟨rfl, hb6⟩; have BX6 := Aside0.mk (BX0.out.keep hb6); have h6a : w6.cell? ⟨w.heap.size + 1 + 1, 0, none⟩ = some (.int .i64 a3_0) := (blk_cell BX6.out.h2 0).trans rfl; have h6b : w6.cell? ⟨w.heap.size + 1 + 1, 1, none⟩ = some (.string a3_1) := (blk_cell BX6.out.h2 1).trans rfl; have h6c : w6.cell? ⟨w.heap.size + 1, 0, none⟩ = some (.slice A1 l1.length c1) := (blk_cell BX6.out.h1 0).trans rfl; clear hb6) | (go_at_call 70; refine (impl_Key_valid.calls a3_0 a3_1 _ _ (GRes.below HG.out BX6.out.bel) H2.out).mono ?_; rintro e w7 ⟨rfl, hb7⟩; have BX7 := Aside0.mk (BX6.out.keep hb7); have h7a : w7.cell? ⟨w.heap.size + 1 + 1, 0, none⟩ = some (.int .i64 a3_0) := (blk_cell BX7.out.h2 0).trans rfl; have h7b : w7.cell? ⟨w.heap.size + 1 + 1, 1, none⟩ = some (.string a3_1) := (blk_cell BX7.out.h2 1).trans rfl; have h7c : w7.cell? ⟨w.heap.size + 1, 0, none⟩ = some (.slice A1 l1.length c1) := (blk_cell BX7.out.h1 0).trans rfl; clear hb7) | (go_at_call 71; refine (impl_workerOk.calls a2 _ _ H3.out).mono ?_; rintro e w8 ⟨rfl, hd8⟩; have BX8 := Aside0.mk (show CirBx w w8 A0_0 l0_0.length c0_0 A1 l1.length c1 a3_0 a3_1 by obtain ⟨nd, rfl⟩ := hd8; exact BX7.out.keep (pw_below_drewN (Below.refl _ _) nd)); have h8a : w8.cell? ⟨w.heap.size + 1 + 1, 0, none⟩ = some (.int .i64 a3_0) := (blk_cell BX8.out.h2 0).trans rfl; have h8b : w8.cell? ⟨w.heap.size + 1 + 1, 1, none⟩ = some (.string a3_1) := (blk_cell BX8.out.h2 1).trans rfl; have h8c : w8.cell? ⟨w.heap.size + 1, 0, none⟩ = some (.slice A1 l1.length c1) := (blk_cell BX8.out.h1 0).trans rfl; clear hd8))
          go_ret
          exact ⟨rfl, BX8.out.bel⟩
        rw [if_neg c2'] at h
        have cb2 : decide (16 < (l1.length : Int)) = false := decide_eq_false c2'
        have cb3 : decide (16 < l1.length) = false := decide_eq_false (by omega)
        have HL := Aside0.mk (show l1.length ≤ 16 by omega)
        obtain ⟨L, hL, h⟩ := Option.bind_eq_some_iff.mp h
        have HT := Aside0.mk hL
        have HC := Aside0.mk h
        clear hL h c1' c2'
        have hmf : ∀ (fn : Fn) (first cap : Array Value) (w : World), (Instr.makeFunc fn first cap).run Tryd.prog w = .ok (.func fn first cap) w := fun _ _ _ _ => rfl
        go_enter Tryd.func27, Tryd.ntmps27
        go_wp2_with (first | (go_at_call 44; refine (impl_ValidTable.calls k A0_0 c0_0 l0_0 _ _ (GRes.below HG.out BX0.out.bel) (Kd.C_below HR0.out BX0.out.bel) HC0.out H1.out).mono ?_; rintro e w6 ⟨rfl, hb6⟩; have BX6 := Aside0.mk (BX0.out.keep hb6); have h6a : w6.cell? ⟨w.heap.size + 1 + 1, 0, none⟩ = some (.int .i64 a3_0) := (blk_cell BX6.out.h2 0).trans rfl; have h6b : w6.cell? ⟨w.heap.size + 1 + 1, 1, none⟩ = some (.string a3_1) := (blk_cell BX6.out.h2 1).trans rfl; have h6c : w6.cell? ⟨w.heap.size + 1, 0, none⟩ = some (.slice A1 l1.length c1) := (blk_cell BX6.out.h1 0).trans rfl; clear hb6) | (go_at_call 70; refine (impl_Key_valid.calls a3_0 a3_1 _ _ (GRes.below HG.out BX6.out.bel) H2.out).mono ?_; rintro e w7 ⟨rfl, hb7⟩; have BX7 := Aside0.mk (BX6.out.keep hb7); have h7a : w7.cell? ⟨w.heap.size + 1 + 1, 0, none⟩ = some (.int .i64 a3_0) := (blk_cell BX7.out.h2 0).trans rfl; have h7b : w7.cell? ⟨w.heap.size + 1 + 1, 1, none⟩ = some (.string a3_1) := (blk_cell BX7.out.h2 1).trans rfl; have h7c : w7.cell? ⟨w.heap.size + 1, 0, none⟩ = some (.slice A1 l1.length c1) := (blk_cell BX7.out.h1 0).trans rfl; clear hb7) | (go_at_call 71; refine (impl_workerOk.calls a2 _ _ H3.out).mono ?_; rintro e w8 ⟨rfl, hd8⟩; have BX8 := Aside0.mk (show CirBx w w8 A0_0 l0_0.length c0_0 A1 l1.length c1 a3_0 a3_1 by obtain ⟨nd, rfl⟩ := hd8; exact BX7.out.keep (pw_below_drewN (Below.refl _ _) nd)); have h8a : w8.cell? ⟨w.heap.size + 1 + 1, 0, none⟩ = some (.int .i64 a3_0) := (blk_cell BX8.out.h2 0).trans rfl; have h8b : w8.cell? ⟨w.heap.size + 1 + 1, 1, none⟩ = some (.string a3_1) := (blk_cell BX8.out.h2 1).trans rfl; have h8c : w8.cell? ⟨w.heap.size + 1, 0, none⟩ = some (.slice A1 l1.length c1) := (blk_cell BX8.out.h1 0).trans rfl; clear hd8))
        clear h6a h6b h6c h7a h7b h7c h8a h8b h8c
        refine start_ (n := 8) (S := fun w' => w'.cell? ⟨w.heap.size, 0, none⟩ = some (.slice A0_0 l0_0.length c0_0) ∧ w'.cell? ⟨w.heap.size + 1 + 1, 0, none⟩ = some (.int .i64 a3_0) ∧ w'.cell? ⟨w.heap.size + 1 + 1, 1, none⟩ = some (.string a3_1)) (ds := []) #[false, false, false, false, false, false, false, false] (by kernel_rfl) rfl rfl ⟨(blk_cell BX8.out.h0 0).trans rfl, (blk_cell BX8.out.h2 0).trans rfl, (blk_cell BX8.out.h2 1).trans rfl⟩ (fun hHeld => ?_)
        refine take_ (i := 0) (N := some 33) (v := ?_) (a' := ?_) #[true, false, false, false, false, false, false, false] rfl rfl (by kernel_rfl) (fun _ _ _ h => h) (Or.inl ⟨by rfl, ?_⟩) hHeld ?_ ?_
        rotate_left
        · rintro w' ⟨s0, s1, s2⟩
          go_simp
          with_reducible rfl
        rotate_left
        · simp only [Act.put, List.setIfInBounds_toArray, List.set_cons_zero, List.set_cons_succ, i64_w, i32_w]
          rfl
        refine pure_ (i := 2) (N := some 35) (v := ?_) (a' := ?_) #[true, false, true, false, false, false, false, false] rfl rfl (by kernel_rfl) (fun _ _ _ h => h) (Or.inl ⟨by rfl, ?_⟩) ?_ ?_
        rotate_left
        · intro w'
          go_simp
          with_reducible rfl
        rotate_left
        · simp only [Act.put, List.setIfInBounds_toArray, List.set_cons_zero, List.set_cons_succ, i64_w, i32_w]
          rfl
        refine pure_ (i := 3) (N := some 36) (v := ?_) (a' := ?_) #[true, false, true, true, false, false, false, false] rfl rfl (by kernel_rfl) (fun _ _ _ h => h) (Or.inl ⟨by rfl, ?_⟩) ?_ ?_
        rotate_left
        · intro w'
          go_simp
          with_reducible rfl
        rotate_left
        · simp only [Act.put, List.setIfInBounds_toArray, List.set_cons_zero, List.set_cons_succ, i64_w, i32_w]
          rfl
        refine take_ (i := 4) (N := some 37) (v := ?_) (a' := ?_) #[true, false, true, true, true, false, false, false] rfl rfl (by kernel_rfl) (fun _ _ _ h => h) (Or.inl ⟨by rfl, ?_⟩) hHeld ?_ ?_
        rotate_left
        · rintro w' ⟨s0, s1, s2⟩
          go_simp
          with_reducible rfl
        rotate_left
        · simp only [Act.put, List.setIfInBounds_toArray, List.set_cons_zero, List.set_cons_succ, i64_w, i32_w]
          rfl
        refine pure_ (i := 5) (N := some 38) (v := ?_) (a' := ?_) #[true, false, true, true, true, true, false, false] rfl rfl (by kernel_rfl) (fun _ _ _ h => h) (Or.inl ⟨by rfl, ?_⟩) ?_ ?_
        rotate_left
        · intro w'
          go_simp
          with_reducible rfl
        rotate_left
        · simp only [Act.put, List.setIfInBounds_toArray, List.set_cons_zero, List.set_cons_succ, i64_w, i32_w]
          rfl
        refine one_ (i := 1) (N := some 34) #[true, true, true, true, true, true, false, false] rfl rfl (by kernel_rfl) (by decide) (fun K hK => ?_)
        refine goes_ Tryd.func58 rfl rfl #[.agg #[.slice A0_0 l0_0.length c0_0]] rfl rfl rfl (by (try simp only [List.map_toArray, List.map_cons, List.map_nil, List.append_toArray, List.append_nil, List.nil_append, List.cons_append]); rfl) ?_
        refine (impl_Table_rows.rows A0_0 c0_0 l0_0 L _ (Kd.C_drew (Kd.C_below HR0.out BX8.out.bel)) HT.out).mono ?_
        rintro e w9 ⟨g, rfl, hR⟩
        have hb9 := hR.bel
        refine ⟨_, rfl, ?_⟩
        refine hK.out _ _ ⟨pw_cell_below hb9 hHeld.1, pw_cell_below hb9 hHeld.2.1, pw_cell_below hb9 hHeld.2.2⟩ (fun hHeld => ?_)
        clear hK K
        refine norm_ (a' := ?_) ?_ ?_
        rotate_left
        · show Act.put _ (some 34) _ = _
          simp only [Act.put, List.setIfInBounds_toArray, List.set_cons_zero, List.set_cons_succ, i64_w, i32_w]
          rfl
        have BX9 := Aside0.mk ((BX8.out.keep (below_drew1 (Below.refl _ _))).keep hb9)
        obtain ⟨AR, cR, hO⟩ := hR.ord
        have HO := Aside0.mk hO
        clear hb9 hO hR
        refine one_ (i := 6) (N := some 39) #[true, true, true, true, true, true, true, false] rfl rfl (by kernel_rfl) (by decide) (fun K hK => ?_)
        refine goes_ Tryd.func72 rfl rfl #[.pointer (some ⟨g, 0, none⟩), .func (.func 73) #[] #[.pointer (some ⟨w.heap.size + 1, 0, none⟩)], .int .i64 a2, .agg #[.int .i64 a3_0, .string a3_1], .int .i64 a4] rfl rfl rfl (by (try simp only [List.map_toArray, List.map_cons, List.map_nil, List.append_toArray, List.append_nil, List.nil_append, List.cons_append]); rfl) ?_
        refine (impl_rows_circle.circle k g AR cR L (w.heap.size + 1) A1 c1 l1 a2 a3_0 a3_1 a4 r _ HO.out ((blk_cell BX9.out.h1 0).trans rfl) (Kd.C_below HR1.out BX9.out.bel) HL.out HC.out).mono ?_
        rintro e w10 ⟨rfl, hb10⟩
        refine ⟨_, rfl, ?_⟩
        refine hK.out _ _ ⟨pw_cell_below hb10 hHeld.1, pw_cell_below hb10 hHeld.2.1, pw_cell_below hb10 hHeld.2.2⟩ (fun hHeld => ?_)
        clear hK K
        refine norm_ (a' := ?_) ?_ ?_
        rotate_left
        · show Act.put _ (some 39) _ = _
          simp only [Act.put, List.setIfInBounds_toArray, List.set_cons_zero, List.set_cons_succ, i64_w, i32_w]
          rfl
        have HB10 := Aside0.mk (below_step BX9.out.bel hb10)
        clear hb10
        refine pure_ (i := 7) (N := some 10) (v := ?_) (a' := ?_) #[true, true, true, true, true, true, true, true] rfl rfl (by kernel_rfl) (fun _ _ _ h => h) (Or.inl ⟨by rfl, ?_⟩) ?_ ?_
        rotate_left
        · intro w'
          go_simp
          with_reducible rfl
        rotate_left
        · simp only [Act.put, List.setIfInBounds_toArray, List.set_cons_zero, List.set_cons_succ, i64_w, i32_w]
          rfl
        refine done_ (by kernel_rfl) ?_
        try go_wp2
        go_ret
        exact ⟨rfl, HB10.out⟩
end Go.Proofs.YtnbohlcibgfjaaaDoor.Gp
end
