/- A part of the proof of RowFnExactValidTable: each text's theorems that it needs, packed by shake.py, a program of this work; Lean checks them. -/
import Derived.Test.YtiicaoiijhodkaaDoorVt2
import Derived.Test.YtiicaoiijhodkaaDoorVt5
import Derived.Test.YtiicaoiijhodkaaDoorVt7
section
namespace Go.Proofs.YtiicaoiijhodkaaDoor.Gp
open Go.RowKit Go.Proofs.YtiicaoiijhodkaaDoorW.PrintWords Go.Proofs.YtiicaoiijhodkaaDoorW.PrintLast Go.Proofs.YtiicaoiijhodkaaDoorW.PrintMore
set_option linter.unusedVariables false
set_option linter.unusedSimpArgs false
def kyB (k : S84) : Bool := decide (1 ≤ k.f0 ∧ k.f0 ≤ 3) && gnB k.f1
theorem keyValid_f (k : S84) : impl_Key_valid.f k.f0 k.f1 = some (kyB k) := by
  unfold impl_Key_valid.f kyB impl_goodName.f
  by_cases h1 : k.f0 ≥ 1
  · by_cases h2 : k.f0 ≤ 3
    · simp [h1, h2]
    · simp [h1, h2]
  · simp [h1]
theorem rd_mem_ky (l : List S84) {k : Nat} (h : k < l.length) : rd_T84 l k ∈ l := by
  unfold rd_T84
  rw [Int.toNat_natCast, List.getD_eq_getElem?_getD, List.getElem?_eq_getElem h]
  exact List.getElem_mem h
theorem slices_ContainsFunc_impl_Key_impl_Key_66.pred (a0_0 : Int) (a0_1 : ByteArray) (w : World) (hG : GRes w) :
    Calls Tryd.prog 66 #[.agg #[.int .i64 a0_0, .string a0_1]] w fun e w' => e = .returned (.bool (!kyB ⟨a0_0, a0_1⟩)) ∧ Below w.heap.size w w' := by
  have hu := Tryd.underlying84
  have HG := Aside0.mk (hG.alloc (.cells #[.int .i64 a0_0, .string a0_1] 84))
  have HF := Aside0.mk (keyValid_f ⟨a0_0, a0_1⟩)
  clear hG
  go_enter Tryd.func66, Tryd.ntmps66
  go_wp2_with (go_at_call 64; (refine (impl_Key_valid.calls _ _ _ _ (by exact HG.out) HF.out).mono ?_); rintro e w' ⟨rfl, hb⟩)
  go_ret
  exact ⟨rfl, below_then ((Below.refl _ _).alloc (Nat.le_refl _) _) (by simp) hb⟩
def idxKy : List S84 → Nat → Int
  | [], _ => -1
  | x :: r, k => if kyB x = false then k else idxKy r (k + 1)
theorem idxKy_cons (x : S84) (r : List S84) (k : Nat) : idxKy (x :: r) k = if kyB x = false then (k : Int) else idxKy r (k + 1) := rfl
theorem idxKy_any : ∀ (l : List S84) (k : Nat), decide (0 ≤ idxKy l k) = l.any fun x => !kyB x
  | [], _ => rfl
  | x :: r, k => by
    unfold idxKy
    rw [List.any_cons]
    cases h : kyB x
    · simp
    · simpa using idxKy_any r (k + 1)
theorem drop_ky (l : List S84) (i : Nat) (hi : i < l.length) : l.drop i = rd_T84 l i :: l.drop (i + 1) := by
  rw [List.drop_eq_getElem_cons hi]
  unfold rd_T84
  rw [Int.toNat_natCast, List.getD_eq_getElem?_getD, List.getElem?_eq_getElem hi]
  rfl
set_option maxHeartbeats 4000000 in
theorem slices_ContainsFunc_impl_Key_impl_Key_66.idx (A0 : Option Addr) (c0 : Nat) (l0 : List S84) (w : World) (hG : GRes w) (hr0 : Kd.C k84 w A0 l0.length l0) :
    Calls Tryd.prog 82 #[.slice A0 l0.length c0, .func (.func 66) #[] #[]] w fun e w' => e = .returned (.int .i64 (idxKy l0 0)) ∧ Below w.heap.size w w' := by
  have hu := Tryd.underlying84
  have HG := Aside0.mk hG
  have HR0 := Aside0.mk hr0
  have hn := hr0.2.1
  clear hr0 hG
  go_enter Tryd.func82, Tryd.ntmps82
  go_wp2
  go_loopw [8] (fun i wr => ∃ k : Nat, k ≤ l0.length ∧ i = .int .i64 k ∧ Aside0 (idxKy (l0.drop k) k = idxKy l0 0) ∧ Aside0 (Below w.heap.size w wr)) (fun i _ => l0.length - (intOf i).toNat)
  case atStart => exact ⟨0, Nat.zero_le _, rfl, ⟨rfl⟩, ⟨Below.refl _ _⟩⟩
  case round =>
    obtain ⟨k, hk, rfl, HV, HB⟩ := hrel
    by_cases hlt : k < l0.length
    · have p102 : 0 ≤ (k : Int) := by omega
      have q102 : (k : Int) < (l0.length : Int) := by omega
      obtain ⟨ad, e102, hx0, hx1⟩ := at_T84 HR0.out k p102 q102
      cases e102
      replace hx0 := (HB.out.cell (World.block_lt_of_cell? w _ hx0)).trans hx0
      replace hx1 := (HB.out.cell (World.block_lt_of_cell? w _ hx1)).trans hx1
      rw [Int.toNat_natCast] at hx0 hx1
      have HD := Aside0.mk (drop_ky l0 k hlt)
      obtain ⟨s, hs⟩ : ∃ s, s = rd_T84 l0 k := ⟨_, rfl⟩
      rw [← hs] at hx0 hx1
      have HS := Lib.hid hs
      clear hs
      have ql : decide (k < l0.length) = true := decide_eq_true hlt
      have hv := HV.out
      rw [HD.out, ← HS.out, idxKy_cons] at hv
      have HG1 := Aside0.mk (GRes.below HG.out HB.out)
      cases hc : kyB s
      case false =>
        rw [if_pos hc] at hv
        have HE := Aside0.mk hv
        have HP := Aside0.mk (show (!kyB ⟨s.f0, s.f1⟩) = true by rw [show (⟨s.f0, s.f1⟩ : S84) = s from rfl, hc]; rfl)
        clear hv hc
        go_wp2_with (go_at_call 66; (refine (slices_ContainsFunc_impl_Key_impl_Key_66.pred _ _ _ (by exact HG1.out)).mono ?_); rintro e w' ⟨rfl, hb⟩; rw [HP.out]; have HB1 := Aside0.mk (below_then HB.out HB.out.size hb); clear hb)
        go_ret
        exact ⟨by simp [← HE.out], HB1.out⟩
      case true =>
        rw [hc, if_neg (by simp)] at hv
        have HE := Aside0.mk hv
        have HP := Aside0.mk (show (!kyB ⟨s.f0, s.f1⟩) = false by rw [show (⟨s.f0, s.f1⟩ : S84) = s from rfl, hc]; rfl)
        clear hv hc
        go_wp2_with (go_at_call 66; (refine (slices_ContainsFunc_impl_Key_impl_Key_66.pred _ _ _ (by exact HG1.out)).mono ?_); rintro e w' ⟨rfl, hb⟩; rw [HP.out]; have HB1 := Aside0.mk (below_then HB.out HB.out.size hb); clear hb)
        go_roundw
        case rel => exact ⟨k + 1, by omega, by go_num, HE, HB1⟩
        case measure => simp [intOf]; omega
    · obtain rfl : k = l0.length := by omega
      have HE := Aside0.mk (show idxKy l0 0 = -1 by rw [← HV.out, List.drop_length]; rfl)
      have ql : decide (l0.length < l0.length) = false := decide_eq_false hlt
      clear hlt hk
      go_wp2
      go_ret
      exact ⟨by simp [HE.out], HB.out⟩
def slices_ContainsFunc_impl_Key_impl_Key_66.f (l0 : List S84) : Option Bool := some (l0.any fun x => !kyB x)
set_option maxHeartbeats 4000000 in
theorem slices_ContainsFunc_impl_Key_impl_Key_66.calls (A0 : Option Addr) (c0 : Nat) (l0 : List S84) (r : Bool) (w : World) (hG : GRes w) (hr0 : Kd.C k84 w A0 l0.length l0) (hc0 : l0.length ≤ c0) (h : slices_ContainsFunc_impl_Key_impl_Key_66.f l0 = some r) :
    Calls Tryd.prog 65 #[.slice A0 l0.length c0, .func (.func 66) #[] #[]] w fun e w' => e = .returned (.bool r) ∧ Below w.heap.size w w' := by
  obtain rfl := Option.some.inj h
  have HI := Aside0.mk (slices_ContainsFunc_impl_Key_impl_Key_66.idx A0 c0 l0 w hG hr0)
  have hA := idxKy_any l0 0
  obtain ⟨x, hx⟩ : ∃ x, x = idxKy l0 0 := ⟨_, rfl⟩
  rw [← hx] at hA
  have HX := Aside0.mk hx
  clear hx h hG hr0
  have HA := Aside0.mk hA
  clear hA
  go_enter Tryd.func65, Tryd.ntmps65
  go_wp2_with (go_at_call 82; refine HI.out.mono ?_; rintro e w' ⟨rfl, hb⟩; rw [← HX.out])
  go_ret
  exact ⟨by simp [← HA.out], hb⟩
end Go.Proofs.YtiicaoiijhodkaaDoor.Gp
end
