/- A part of the proof of RowFnExactCircle: each text's theorems that it needs, packed by shake.py, a program of this work; Lean checks them. -/
import Derived.Test.YtnbohlcibgfjaaaDoorCc3
import Derived.Test.YtnbohlcibgfjaaaDoorCc14
section
namespace Go.Proofs.YtnbohlcibgfjaaaDoor.Gp
open Go.RowKit Go.Proofs.YtnbohlcibgfjaaaDoorW.PrintWords Go.Proofs.YtnbohlcibgfjaaaDoorW.PrintLast Go.Proofs.YtnbohlcibgfjaaaDoorW.PrintMore
set_option linter.unusedVariables false
set_option linter.unusedSimpArgs false
theorem wordByte_wb (b : Int) : impl_wordByte.f b = some (wb b) := by
  unfold impl_wordByte.f wb
  by_cases h1 : b ≥ 97
  · by_cases h2 : b ≤ 122
    · simp [h1, h2]
    · by_cases h3 : b ≥ 48
      · by_cases h4 : b ≤ 57 <;> simp [h1, h2, h3, h4]
      · simp [h1, h2, h3]
  · by_cases h3 : b ≥ 48
    · by_cases h4 : b ≤ 57 <;> simp [h1, h3, h4]
    · simp [h1, h3]
def impl_goodName.f (a0 : ByteArray) : Option Bool := some (gnB a0)
theorem gnB_no {s : ByteArray} (h : ¬ (1 ≤ s.size ∧ s.size ≤ 12 ∧ resB s.data.toList = false ∧ 97 ≤ bt s 0 ∧ bt s 0 ≤ 122 ∧ ∀ i : Nat, i < s.size → wb (bt s i) = true)) : gnB s = false := decide_eq_false h
set_option maxHeartbeats 4000000 in
set_option maxRecDepth 100000 in
theorem impl_goodName.calls (a0 : ByteArray) (r : Bool) (w : World) (hG : GRes w) (h : impl_goodName.f a0 = some r) :
    Calls Tryd.prog 120 #[.string a0] w fun e w' => e = .returned (.bool r) ∧ Drawn0 w w' := by
  obtain rfl := Option.some.inj h
  clear h
  by_cases c1 : (a0.size : Int) < 1
  · have e := gnB_no (s := a0) (by omega)
    rw [e]
    clear e
    have c1b0 : decide ((a0.size : Int) < 1) = true := decide_eq_true c1
    have c1b1 : decide (a0.size < 1) = true := decide_eq_true (by omega)
    clear c1 hG
    go_enter Tryd.func120, Tryd.ntmps120
    go_wp2
    go_ret
    exact ⟨rfl, Drawn0.refl _⟩
  by_cases c2 : (a0.size : Int) > 12
  · have e := gnB_no (s := a0) (by omega)
    rw [e]
    clear e
    have c1b0 : decide ((a0.size : Int) < 1) = false := decide_eq_false c1
    have c1b1 : decide (a0.size < 1) = false := decide_eq_false (by omega)
    have c2b0 : decide (12 < (a0.size : Int)) = true := decide_eq_true c2
    have c2b1 : decide (12 < a0.size) = true := decide_eq_true (by omega)
    clear c1 c2 hG
    go_enter Tryd.func120, Tryd.ntmps120
    go_wp2
    go_ret
    exact ⟨rfl, Drawn0.refl _⟩
  obtain ⟨bR, hcell, hown⟩ := hG.out
  have hlk := res_lookup hown a0 (by unfold maxLen; omega)
  have q6 : (0 < a0.size) = True := eq_true (by omega)
  have qi6 : (0 < (a0.size : Int)) = True := eq_true (by omega)
  have hx6 : ∀ h : 0 < a0.size, ((a0[0]'h).toNat : Int) = bt a0 0 := bt_at a0 0
  have Hs1 := Lib.hid (show 1 ≤ a0.size ∧ a0.size ≤ 12 by omega)
  have c1b0 : decide ((a0.size : Int) < 1) = false := decide_eq_false c1
  have c1b1 : decide (a0.size < 1) = false := decide_eq_false (by omega)
  have c2b0 : decide (12 < (a0.size : Int)) = false := decide_eq_false c2
  have c2b1 : decide (12 < a0.size) = false := decide_eq_false (by omega)
  clear c1 c2 hown hG
  cases hr : resB a0.data.toList
  case true =>
    have e := gnB_no (s := a0) (by intro hh; rw [hh.2.2.1] at hr; cases hr)
    rw [e]
    rw [hr, if_pos rfl] at hlk
    clear e hr Hs1
    go_enter Tryd.func120, Tryd.ntmps120
    go_wp2
    go_ret
    exact ⟨rfl, Drawn0.refl _⟩
  rw [hr, if_neg (by simp)] at hlk
  have Hr := Lib.hid hr
  clear hr
  by_cases c3 : bt a0 0 < 97
  · have e := gnB_no (s := a0) (by omega)
    rw [e]
    clear e Hs1 Hr
    have c3b0 : decide (bt a0 0 < 97) = true := decide_eq_true c3
    clear c3
    go_enter Tryd.func120, Tryd.ntmps120
    go_wp2
    go_ret
    exact ⟨rfl, Drawn0.refl _⟩
  by_cases c4 : bt a0 0 > 122
  · have e := gnB_no (s := a0) (by omega)
    rw [e]
    clear e Hs1 Hr
    have c3b0 : decide (bt a0 0 < 97) = false := decide_eq_false c3
    have c4b0 : decide (122 < bt a0 0) = true := decide_eq_true c4
    clear c3 c4
    go_enter Tryd.func120, Tryd.ntmps120
    go_wp2
    go_ret
    exact ⟨rfl, Drawn0.refl _⟩
  have H0 := Lib.hid (show 97 ≤ bt a0 0 ∧ bt a0 0 ≤ 122 by omega)
  have c3b0 : decide (bt a0 0 < 97) = false := decide_eq_false c3
  have c4b0 : decide (122 < bt a0 0) = false := decide_eq_false c4
  clear c3 c4
  go_enter Tryd.func120, Tryd.ntmps120
  go_wp2
  clear hx6 q6 qi6 c1b0 c1b1 c2b0 c2b1 c3b0 c4b0 hlk hcell
  go_loopw [30] (fun i wr => ∃ k : Nat, k ≤ a0.size ∧ i = .int .i64 k ∧ Aside0 (∀ j : Nat, j < k → wb (bt a0 j) = true) ∧ Drawn0 w wr) (fun i _ => a0.size - (intOf i).toNat)
  case atStart => exact ⟨0, Nat.zero_le _, rfl, ⟨fun j hj => by omega⟩, Drawn0.refl _⟩
  case round =>
    obtain ⟨k, hk, rfl, HA, HD⟩ := hrel
    by_cases hlt : k < a0.size
    · have hx : ∀ h : k < a0.size, ((a0[k]'h).toNat : Int) = bt a0 (k : Int) := fun h => by simp [bt, h]
      have ql : decide (k < a0.size) = true := decide_eq_true hlt
      have hs12 := Hs1.out.2
      cases hw : wb (bt a0 k)
      case true =>
        have HW := Lib.hid hw
        clear hw
        go_wp2_with (go_at_call 155; (refine (impl_wordByte.calls _ _ _ ((wordByte_wb _).trans (congrArg some HW.out))).mono ?_); rintro e w' ⟨rfl, ⟨nd, rfl⟩⟩)
        go_roundw
        case rel => exact ⟨k + 1, by omega, by go_num, ⟨fun j hj => by
          rcases Nat.lt_succ_iff_lt_or_eq.1 hj with h | rfl
          · exact HA.out j h
          · exact HW.out⟩, HD.step _⟩
        case measure => simp [intOf]; omega
      case false =>
        have e := gnB_no (s := a0) (fun hh => by rw [hh.2.2.2.2.2 k hlt] at hw; cases hw)
        have HW := Lib.hid hw
        clear hw
        have E := Lib.hid e
        clear e
        go_wp2_with (go_at_call 155; (refine (impl_wordByte.calls _ _ _ ((wordByte_wb _).trans (congrArg some HW.out))).mono ?_); rintro e w' ⟨rfl, ⟨nd, rfl⟩⟩)
        go_ret
        exact ⟨by simp [E.out], HD.step _⟩
    · obtain rfl : k = a0.size := by omega
      have e : gnB a0 = true := decide_eq_true ⟨Hs1.out.1, Hs1.out.2, Hr.out, H0.out.1, H0.out.2, HA.out⟩
      have E := Lib.hid e
      clear e hlt hk
      go_wp2
      go_ret
      exact ⟨by simp [E.out], HD⟩
end Go.Proofs.YtnbohlcibgfjaaaDoor.Gp
end
section
namespace Go.Proofs.YtnbohlcibgfjaaaDoor.Gp
open Go.RowKit Go.Proofs.YtnbohlcibgfjaaaDoorW.PrintWords Go.Proofs.YtnbohlcibgfjaaaDoorW.PrintLast Go.Proofs.YtnbohlcibgfjaaaDoorW.PrintMore
set_option linter.unusedVariables false
set_option linter.unusedSimpArgs false
def impl_Key_valid.f (a0_0 : Int) (a0_1 : ByteArray) : Option (Bool) := if a0_0 ≥ 1 then (if a0_0 ≤ 3 then ((impl_goodName.f a0_1).bind fun t258 => (some t258)) else (some false)) else (some false)
set_option maxHeartbeats 8000000 in
set_option maxRecDepth 100000 in
theorem impl_Key_valid.calls (a0_0 : Int) (a0_1 : ByteArray) (r : Bool) (w : World) (hG : GRes w) (h : impl_Key_valid.f a0_0 a0_1 = some r) :
    Calls Tryd.prog 70 #[.agg #[.int .i64 a0_0, .string a0_1]] w fun e w' => e = .returned (.bool r) ∧ Below w.heap.size w w' := by
  have hu29 := Tryd.underlying29
  have HG := Aside0.mk hG
  clear hG
  have HB := Aside0.mk (Below.refl w.heap.size w)
  have H : (if a0_0 ≥ 1 then (if a0_0 ≤ 3 then ((impl_goodName.f a0_1).bind fun t258 => (some t258)) else (some false)) else (some false)) = some r := h
  clear h
  by_cases c2 : a0_0 ≥ 1
  · rw [if_pos c2] at H
    have c2b0 : decide (1 ≤ a0_0) = true := decide_eq_true c2
    clear c2
    by_cases c3 : a0_0 ≤ 3
    · rw [if_pos c3] at H
      have c3b0 : decide (a0_0 ≤ 3) = true := decide_eq_true c3
      clear c3
      replace H := Option.bind_eq_some_iff.mp H
      obtain ⟨t258, A40, H⟩ := H
      replace H : (some t258) = some r := H
      have A4 := Aside0.mk A40
      clear A40
      obtain rfl := Option.some.inj H
      go_enter Tryd.func70, Tryd.ntmps70
      go_wp2_with (first | ((with_reducible refine gate_dst (N := 1) rfl ?_); refine box_event ?hg (N := 1) ?hd (cs := #[.int .i64 a0_0, .string a0_1]) (t := 29) ?hr ?_; (case hd => rfl); (case hg => rfl); (case hr => first | (go_simp; done) | (go_simp; rfl)); intro gb257 hg w5 hbox hb; have n0_ := Aside0.mk (below_step (by repeat (first | (with_reducible first | exact HB.out | apply below_alloc | apply pw_below_drewN | apply below_drew1) | exact HB.out)) hb); have n1_ := Aside0.mk (hbox); have n2_ := Aside0.mk ((by rw [hg]; exact (below_size (by repeat (first | (with_reducible first | exact HB.out | apply below_alloc | apply pw_below_drewN | apply below_drew1) | exact HB.out))) : w.heap.size ≤ gb257)); have n3_ := Aside0.mk ((by rw [hg]; exact (below_size (by repeat (first | (with_reducible first | exact HB.out | apply below_alloc | apply pw_below_drewN | apply below_drew1) | exact HB.out))) : w.heap.size ≤ gb257)); clear HB; have HB := n0_; have BK257 := n1_; have GW257 := n2_; have GE257 := n3_; clear n0_ n1_ n2_ n3_; clear hb hbox hg; have hcz6_0 : w5.cell? ⟨gb257, 0, none⟩ = some (.int .i64 a0_0) := (blk_cell BK257.out 0).trans rfl; have hcz6_1 : w5.cell? ⟨gb257, 1, none⟩ = some (.string a0_1) := (blk_cell BK257.out 1).trans rfl; have hfz6_0 := blk_frozen BK257.out 0; have hfz6_1 := blk_frozen BK257.out 1) | (go_at_call 120; (with_reducible refine (impl_goodName.calls a0_1 t258 _ ?side1 A4.out).mono ?_); (case side1 => (first | exact HG.out | exact GRes.below HG.out (by repeat (first | (with_reducible first | exact HB.out | apply below_alloc | apply pw_below_drewN | apply below_drew1 | refine below_set ?_ GE257.out) | exact HB.out)) | (repeat (first | exact HG.out | apply GRes.drewN | apply GRes.drew | apply GRes.alloc)))); rintro e w' ⟨rfl, ⟨nd, rfl⟩⟩))
      go_ret
      exact ⟨by first | rfl | (simp [errW_none, errW_some] <;> rfl) | (simp [*, errW_none, errW_some] <;> rfl), by repeat (first | (with_reducible first | exact HB.out | apply below_alloc | apply pw_below_drewN | apply below_drew1 | refine below_set ?_ GE257.out) | exact HB.out)⟩
    · rw [if_neg c3] at H
      have c3b0 : decide (a0_0 ≤ 3) = false := decide_eq_false c3
      clear c3
      obtain rfl := Option.some.inj H
      go_enter Tryd.func70, Tryd.ntmps70
      go_wp2_with (first | ((with_reducible refine gate_dst (N := 1) rfl ?_); refine box_event ?hg (N := 1) ?hd (cs := #[.int .i64 a0_0, .string a0_1]) (t := 29) ?hr ?_; (case hd => rfl); (case hg => rfl); (case hr => first | (go_simp; done) | (go_simp; rfl)); intro gb257 hg w7 hbox hb; have n0_ := Aside0.mk (below_step (by repeat (first | (with_reducible first | exact HB.out | apply below_alloc | apply pw_below_drewN | apply below_drew1) | exact HB.out)) hb); have n1_ := Aside0.mk (hbox); have n2_ := Aside0.mk ((by rw [hg]; exact (below_size (by repeat (first | (with_reducible first | exact HB.out | apply below_alloc | apply pw_below_drewN | apply below_drew1) | exact HB.out))) : w.heap.size ≤ gb257)); have n3_ := Aside0.mk ((by rw [hg]; exact (below_size (by repeat (first | (with_reducible first | exact HB.out | apply below_alloc | apply pw_below_drewN | apply below_drew1) | exact HB.out))) : w.heap.size ≤ gb257)); clear HB; have HB := n0_; have BK257 := n1_; have GW257 := n2_; have GE257 := n3_; clear n0_ n1_ n2_ n3_; clear hb hbox hg; have hcz8_0 : w7.cell? ⟨gb257, 0, none⟩ = some (.int .i64 a0_0) := (blk_cell BK257.out 0).trans rfl; have hcz8_1 : w7.cell? ⟨gb257, 1, none⟩ = some (.string a0_1) := (blk_cell BK257.out 1).trans rfl; have hfz8_0 := blk_frozen BK257.out 0; have hfz8_1 := blk_frozen BK257.out 1))
      go_ret
      exact ⟨by first | rfl | (simp [errW_none, errW_some] <;> rfl) | (simp [*, errW_none, errW_some] <;> rfl), by repeat (first | (with_reducible first | exact HB.out | apply below_alloc | apply pw_below_drewN | apply below_drew1 | refine below_set ?_ GE257.out) | exact HB.out)⟩
  · rw [if_neg c2] at H
    have c2b0 : decide (1 ≤ a0_0) = false := decide_eq_false c2
    clear c2
    obtain rfl := Option.some.inj H
    go_enter Tryd.func70, Tryd.ntmps70
    go_wp2_with (first | ((with_reducible refine gate_dst (N := 1) rfl ?_); refine box_event ?hg (N := 1) ?hd (cs := #[.int .i64 a0_0, .string a0_1]) (t := 29) ?hr ?_; (case hd => rfl); (case hg => rfl); (case hr => first | (go_simp; done) | (go_simp; rfl)); intro gb257 hg w9 hbox hb; have n0_ := Aside0.mk (below_step (by repeat (first | (with_reducible first | exact HB.out | apply below_alloc | apply pw_below_drewN | apply below_drew1) | exact HB.out)) hb); have n1_ := Aside0.mk (hbox); have n2_ := Aside0.mk ((by rw [hg]; exact (below_size (by repeat (first | (with_reducible first | exact HB.out | apply below_alloc | apply pw_below_drewN | apply below_drew1) | exact HB.out))) : w.heap.size ≤ gb257)); have n3_ := Aside0.mk ((by rw [hg]; exact (below_size (by repeat (first | (with_reducible first | exact HB.out | apply below_alloc | apply pw_below_drewN | apply below_drew1) | exact HB.out))) : w.heap.size ≤ gb257)); clear HB; have HB := n0_; have BK257 := n1_; have GW257 := n2_; have GE257 := n3_; clear n0_ n1_ n2_ n3_; clear hb hbox hg; have hcz10_0 : w9.cell? ⟨gb257, 0, none⟩ = some (.int .i64 a0_0) := (blk_cell BK257.out 0).trans rfl; have hcz10_1 : w9.cell? ⟨gb257, 1, none⟩ = some (.string a0_1) := (blk_cell BK257.out 1).trans rfl; have hfz10_0 := blk_frozen BK257.out 0; have hfz10_1 := blk_frozen BK257.out 1))
    go_ret
    exact ⟨by first | rfl | (simp [errW_none, errW_some] <;> rfl) | (simp [*, errW_none, errW_some] <;> rfl), by repeat (first | (with_reducible first | exact HB.out | apply below_alloc | apply pw_below_drewN | apply below_drew1 | refine below_set ?_ GE257.out) | exact HB.out)⟩
end Go.Proofs.YtnbohlcibgfjaaaDoor.Gp
end
section
namespace Go.Proofs.YtnbohlcibgfjaaaDoor.Gp
open Go.RowKit Go.Proofs.YtnbohlcibgfjaaaDoorW.PrintWords Go.Proofs.YtnbohlcibgfjaaaDoorW.PrintLast Go.Proofs.YtnbohlcibgfjaaaDoorW.PrintMore
set_option linter.unusedVariables false
set_option linter.unusedSimpArgs false
def kyB (k : S29) : Bool := decide (1 ≤ k.f0 ∧ k.f0 ≤ 3) && gnB k.f1
theorem keyValid_f (k : S29) : impl_Key_valid.f k.f0 k.f1 = some (kyB k) := by
  unfold impl_Key_valid.f kyB impl_goodName.f
  by_cases h1 : k.f0 ≥ 1
  · by_cases h2 : k.f0 ≤ 3
    · simp [h1, h2]
    · simp [h1, h2]
  · simp [h1]
theorem rd_mem_ky (l : List S29) {k : Nat} (h : k < l.length) : rd_T29 l k ∈ l := by
  unfold rd_T29
  rw [Int.toNat_natCast, List.getD_eq_getElem?_getD, List.getElem?_eq_getElem h]
  exact List.getElem_mem h
theorem slices_ContainsFunc_impl_Key_impl_Key_130.pred (a0_0 : Int) (a0_1 : ByteArray) (w : World) (hG : GRes w) :
    Calls Tryd.prog 130 #[.agg #[.int .i64 a0_0, .string a0_1]] w fun e w' => e = .returned (.bool (!kyB ⟨a0_0, a0_1⟩)) ∧ Below w.heap.size w w' := by
  have hu := Tryd.underlying29
  have HG := Aside0.mk (hG.alloc (.cells #[.int .i64 a0_0, .string a0_1] 29))
  have HF := Aside0.mk (keyValid_f ⟨a0_0, a0_1⟩)
  clear hG
  go_enter Tryd.func130, Tryd.ntmps130
  go_wp2_with (go_at_call 70; (refine (impl_Key_valid.calls _ _ _ _ (by exact HG.out) HF.out).mono ?_); rintro e w' ⟨rfl, hb⟩)
  go_ret
  exact ⟨rfl, below_then ((Below.refl _ _).alloc (Nat.le_refl _) _) (by simp) hb⟩
def idxKy : List S29 → Nat → Int
  | [], _ => -1
  | x :: r, k => if kyB x = false then k else idxKy r (k + 1)
theorem idxKy_cons (x : S29) (r : List S29) (k : Nat) : idxKy (x :: r) k = if kyB x = false then (k : Int) else idxKy r (k + 1) := rfl
theorem idxKy_any : ∀ (l : List S29) (k : Nat), decide (0 ≤ idxKy l k) = l.any fun x => !kyB x
  | [], _ => rfl
  | x :: r, k => by
    unfold idxKy
    rw [List.any_cons]
    cases h : kyB x
    · simp
    · simpa using idxKy_any r (k + 1)
theorem drop_ky (l : List S29) (i : Nat) (hi : i < l.length) : l.drop i = rd_T29 l i :: l.drop (i + 1) := by
  rw [List.drop_eq_getElem_cons hi]
  unfold rd_T29
  rw [Int.toNat_natCast, List.getD_eq_getElem?_getD, List.getElem?_eq_getElem hi]
  rfl
set_option maxHeartbeats 4000000 in
theorem slices_ContainsFunc_impl_Key_impl_Key_130.idx (A0 : Option Addr) (c0 : Nat) (l0 : List S29) (w : World) (hG : GRes w) (hr0 : Kd.C k29 w A0 l0.length l0) :
    Calls Tryd.prog 127 #[.slice A0 l0.length c0, .func (.func 130) #[] #[]] w fun e w' => e = .returned (.int .i64 (idxKy l0 0)) ∧ Below w.heap.size w w' := by
  have hu := Tryd.underlying29
  have HG := Aside0.mk hG
  have HR0 := Aside0.mk hr0
  have hn := hr0.2.1
  clear hr0 hG
  go_enter Tryd.func127, Tryd.ntmps127
  go_wp2
  go_loopw [8] (fun i wr => ∃ k : Nat, k ≤ l0.length ∧ i = .int .i64 k ∧ Aside0 (idxKy (l0.drop k) k = idxKy l0 0) ∧ Aside0 (Below w.heap.size w wr)) (fun i _ => l0.length - (intOf i).toNat)
  case atStart => exact ⟨0, Nat.zero_le _, rfl, ⟨rfl⟩, ⟨Below.refl _ _⟩⟩
  case round =>
    obtain ⟨k, hk, rfl, HV, HB⟩ := hrel
    by_cases hlt : k < l0.length
    · have p102 : 0 ≤ (k : Int) := by omega
      have q102 : (k : Int) < (l0.length : Int) := by omega
      obtain ⟨ad, e102, hx0, hx1⟩ := at_T29 HR0.out k p102 q102
      cases e102
      replace hx0 := (HB.out.cell (World.block_lt_of_cell? w _ hx0)).trans hx0
      replace hx1 := (HB.out.cell (World.block_lt_of_cell? w _ hx1)).trans hx1
      rw [Int.toNat_natCast] at hx0 hx1
      have HD := Aside0.mk (drop_ky l0 k hlt)
      obtain ⟨s, hs⟩ : ∃ s, s = rd_T29 l0 k := ⟨_, rfl⟩
      rw [← hs] at hx0 hx1
      have HS := Lib.hid hs
      clear hs
      have ql : decide (k < l0.length) = true := decide_eq_true hlt
      have hv := HV.out
      rw [HD.out, ← HS.out, idxKy_cons] at hv
      have HG1 := Aside0.mk (GRes.below HG.out HB.out)
      cases hc : kyB s
      case false =>
        rw [if_pos hc] at hv
        have HE := Aside0.mk hv
        have HP := Aside0.mk (show (!kyB ⟨s.f0, s.f1⟩) = true by rw [show (⟨s.f0, s.f1⟩ : S29) = s from rfl, hc]; rfl)
        clear hv hc
        go_wp2_with (go_at_call 130; (refine (slices_ContainsFunc_impl_Key_impl_Key_130.pred _ _ _ (by exact HG1.out)).mono ?_); rintro e w' ⟨rfl, hb⟩; rw [HP.out]; have HB1 := Aside0.mk (below_then HB.out HB.out.size hb); clear hb)
        go_ret
        exact ⟨by simp [← HE.out], HB1.out⟩
      case true =>
        rw [hc, if_neg (by simp)] at hv
        have HE := Aside0.mk hv
        have HP := Aside0.mk (show (!kyB ⟨s.f0, s.f1⟩) = false by rw [show (⟨s.f0, s.f1⟩ : S29) = s from rfl, hc]; rfl)
        clear hv hc
        go_wp2_with (go_at_call 130; (refine (slices_ContainsFunc_impl_Key_impl_Key_130.pred _ _ _ (by exact HG1.out)).mono ?_); rintro e w' ⟨rfl, hb⟩; rw [HP.out]; have HB1 := Aside0.mk (below_then HB.out HB.out.size hb); clear hb)
        go_roundw
        case rel => exact ⟨k + 1, by omega, by go_num, HE, HB1⟩
        case measure => simp [intOf]; omega
    · obtain rfl : k = l0.length := by omega
      have HE := Aside0.mk (show idxKy l0 0 = -1 by rw [← HV.out, List.drop_length]; rfl)
      have ql : decide (l0.length < l0.length) = false := decide_eq_false hlt
      clear hlt hk
      go_wp2
      go_ret
      exact ⟨by simp [HE.out], HB.out⟩
def slices_ContainsFunc_impl_Key_impl_Key_130.f (l0 : List S29) : Option Bool := some (l0.any fun x => !kyB x)
set_option maxHeartbeats 4000000 in
theorem slices_ContainsFunc_impl_Key_impl_Key_130.calls (A0 : Option Addr) (c0 : Nat) (l0 : List S29) (r : Bool) (w : World) (hG : GRes w) (hr0 : Kd.C k29 w A0 l0.length l0) (hc0 : l0.length ≤ c0) (h : slices_ContainsFunc_impl_Key_impl_Key_130.f l0 = some r) :
    Calls Tryd.prog 86 #[.slice A0 l0.length c0, .func (.func 130) #[] #[]] w fun e w' => e = .returned (.bool r) ∧ Below w.heap.size w w' := by
  obtain rfl := Option.some.inj h
  have HI := Aside0.mk (slices_ContainsFunc_impl_Key_impl_Key_130.idx A0 c0 l0 w hG hr0)
  have hA := idxKy_any l0 0
  obtain ⟨x, hx⟩ : ∃ x, x = idxKy l0 0 := ⟨_, rfl⟩
  rw [← hx] at hA
  have HX := Aside0.mk hx
  clear hx h hG hr0
  have HA := Aside0.mk hA
  clear hA
  go_enter Tryd.func86, Tryd.ntmps86
  go_wp2_with (go_at_call 127; refine HI.out.mono ?_; rintro e w' ⟨rfl, hb⟩; rw [← HX.out])
  go_ret
  exact ⟨by simp [← HA.out], hb⟩
end Go.Proofs.YtnbohlcibgfjaaaDoor.Gp
end
