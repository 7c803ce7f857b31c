-- Written by gp.py, a program of this session, out of the translation; Lean checks it.
import Derived.Test.YtiicaoiijhodkaaDoorGp0
import Derived.Test.YtiicaoiijhodkaaDoorGp3
import Derived.Test.YtiicaoiijhodkaaDoorMaps
namespace Go.Proofs.YtiicaoiijhodkaaDoor.Gp
open Go.RowKit Go.Proofs.YtiicaoiijhodkaaDoorW.PrintWords Go.Proofs.YtiicaoiijhodkaaDoorW.PrintLast Go.Proofs.YtiicaoiijhodkaaDoorW.PrintMore
attribute [local go_sem] max2_int min2_int max_two min_two max_three min_three max_four min_four   -- for this text's walks alone
set_option linter.unusedVariables false
set_option linter.unusedSimpArgs false

/-! ### impl_ValidSources: function 10 (by hand) -/
/-- How often a name has been met. -/
def cntA (xs : List ByteArray) (s : ByteArray) : Nat := xs.countP fun t => decide (t = s)
def cntF (xs : List ByteArray) (s : ByteArray) : Option Int := if cntA xs s = 0 then none else some (cntA xs s)
def vsGo : List ByteArray → List S59 → Bool
  | _, [] => true
  | seen, s :: r => decide (cntA seen s.f0 = 0) && gnB s.f0 && decide (s.f1.size ≤ 1000) && vsGo (seen ++ [s.f0]) r
theorem vsGo_cons (seen : List ByteArray) (s : S59) (r : List S59) : vsGo seen (s :: r) = (decide (cntA seen s.f0 = 0) && gnB s.f0 && decide (s.f1.size ≤ 1000) && vsGo (seen ++ [s.f0]) r) := rfl
theorem cntF_get (xs : List ByteArray) (s : ByteArray) : (cntF xs s).getD 0 = (cntA xs s : Int) := by
  unfold cntF
  split
  · rename_i h; rw [h]; rfl
  · rfl
theorem cntF_snoc (xs : List ByteArray) (s : ByteArray) : upd (cntF xs) s ((cntA xs s : Int) + 1) = cntF (xs ++ [s]) := by
  funext t
  unfold upd cntF cntA
  rw [List.countP_append]
  by_cases h : t = s
  · subst h
    simp
  · have h2 : decide (s = t) = false := decide_eq_false (fun e => h e.symm)
    rw [if_neg h, List.countP_cons, h2]
    simp
/-- The names of the first k. -/
def nmT (l0 : List S59) (k : Nat) : List ByteArray := (l0.take k).map (·.f0)
theorem nmT_zero (l0 : List S59) : nmT l0 0 = [] := rfl
theorem nmT_len (l0 : List S59) (k : Nat) : (nmT l0 k).length ≤ l0.length := by unfold nmT; rw [List.length_map, List.length_take]; omega
theorem nmT_succ (l0 : List S59) (k : Nat) (h : k < l0.length) : nmT l0 (k + 1) = nmT l0 k ++ [(rd_T59 l0 k).f0] := by
  unfold nmT rd_T59
  rw [List.take_succ_eq_append_getElem h, List.map_append, Int.toNat_natCast, List.getD_eq_getElem?_getD, List.getElem?_eq_getElem h]
  rfl
def vsOk (l0 : List S59) : Prop := ∀ s ∈ l0, s.f0.size ≤ 140737488351232
instance (l0 : List S59) : Decidable (vsOk l0) := inferInstanceAs (Decidable (∀ s ∈ l0, s.f0.size ≤ 140737488351232))
def impl_ValidSources.f (l0 : List S59) : Option Bool := if vsOk l0 then some (decide (l0.length ≤ 8) && vsGo [] l0) else none
theorem rd_mem_vs (l : List S59) {k : Nat} (h : k < l.length) : rd_T59 l k ∈ l := by
  unfold rd_T59
  rw [Int.toNat_natCast, List.getD_eq_getElem?_getD, List.getElem?_eq_getElem h]
  exact List.getElem_mem h
theorem cnt_made (w : World) : SMap (w.alloc (.map #[] 0)) w.heap.size 0 (cntF []) := by
  have e : cntF [] = fun _ => none := by funext s; simp [cntF, cntA]
  rw [e]
  exact SMap.made w
set_option maxHeartbeats 4000000 in
set_option maxRecDepth 100000 in
theorem impl_ValidSources.calls (A0 : Option Addr) (c0 : Nat) (l0 : List S59) (r : Bool) (w : World) (hG : GRes w) (hr0 : Kd.C k59 w A0 l0.length l0) (hc0 : l0.length ≤ c0) (h : impl_ValidSources.f l0 = some r) :
    Calls Tryd.prog 10 #[.slice A0 l0.length c0] w fun e w' => e = .returned (.bool r) ∧ Below w.heap.size w w' := by
  have hu := Tryd.underlying59
  have HG := Aside0.mk hG
  have HR0 := Aside0.mk hr0
  clear hr0 hc0 hG
  unfold impl_ValidSources.f at h
  by_cases hok : vsOk l0
  case neg => rw [if_neg hok] at h; cases h
  rw [if_pos hok] at h
  obtain rfl := Option.some.inj h
  clear h
  have HK := Aside0.mk hok
  clear hok
  have hmm := @run_makeMap Tryd.prog
  by_cases c1 : (l0.length : Int) > 8
  · have e : (decide (l0.length ≤ 8) && vsGo [] l0) = false := by rw [decide_eq_false (by omega)]; rfl
    rw [e]
    clear e
    have c1b0 : decide (8 < (l0.length : Int)) = true := decide_eq_true c1
    have c1b1 : decide (8 < l0.length) = true := decide_eq_true (by omega)
    clear c1
    go_enter Tryd.func10, Tryd.ntmps10
    go_wp2
    go_ret
    exact ⟨rfl, Below.refl _ _⟩
  have E : (decide (l0.length ≤ 8) && vsGo [] l0) = vsGo [] l0 := by rw [decide_eq_true (by omega)]; rfl
  rw [E]
  clear E
  have c1b0 : decide (8 < (l0.length : Int)) = false := decide_eq_false c1
  have c1b1 : decide (8 < l0.length) = false := decide_eq_false (by omega)
  have hl8 : l0.length ≤ 8 := by omega
  clear c1
  go_enter Tryd.func10, Tryd.ntmps10
  go_wp2
  clear c1b0 c1b1
  go_loopw [12] (fun i wr => ∃ k : Nat, k ≤ l0.length ∧ i = .int .i64 k ∧ Aside0 (SMap wr w.heap.size k (cntF (nmT l0 k))) ∧ Aside0 (vsGo (nmT l0 k) (l0.drop k) = vsGo [] l0) ∧ Aside0 (Below w.heap.size w wr)) (fun i _ => l0.length - (intOf i).toNat)
  case atStart => exact ⟨0, Nat.zero_le _, rfl, ⟨cnt_made w⟩, ⟨rfl⟩, ⟨(Below.refl _ _).alloc (Nat.le_refl _) _⟩⟩
  case round =>
    obtain ⟨k, hk, rfl, HM, HV, HB⟩ := hrel
    by_cases hlt : k < l0.length
    · have p102 : 0 ≤ (k : Int) := by omega
      have q102 : (k : Int) < (l0.length : Int) := by omega
      obtain ⟨ad, e102, hx0, hx1⟩ := at_T59 HR0.out k p102 q102
      cases e102
      replace hx0 := (HB.out.cell (World.block_lt_of_cell? w _ hx0)).trans hx0
      replace hx1 := (HB.out.cell (World.block_lt_of_cell? w _ hx1)).trans hx1
      rw [Int.toNat_natCast] at hx0 hx1
      obtain ⟨s, hs⟩ : ∃ s, s = rd_T59 l0 k := ⟨_, rfl⟩
      rw [← hs] at hx0 hx1
      have HS := Lib.hid hs
      clear hs
      have ql : decide (k < l0.length) = true := decide_eq_true hlt
      have hsz : s.f0.size ≤ maxLen := by
        have := HK.out s (by rw [HS.out]; exact rd_mem_vs l0 hlt)
        unfold maxLen
        omega
      have HW1 := Aside0.mk (HM.out.alloc (.cells #[.string s.f0, .string s.f1] 59))
      obtain ⟨c, hc⟩ : ∃ c, c = cntA (nmT l0 k) s.f0 := ⟨_, rfl⟩
      have hc8 : c ≤ 8 := by
        rw [hc]
        have h1 : cntA (nmT l0 k) s.f0 ≤ _ := List.countP_le_length
        have h2 := nmT_len l0 k
        omega
      have hlk := HW1.out.lookup s.f0 hsz
      rw [cntF_get, ← hc] at hlk
      have Hc := Aside0.mk hc
      have hwb := HM.out.lt
      clear hc HM
      go_wp2_with (at_mapUpdate; refine wpList_smap_update rfl _ _ _ rfl rfl HW1.out (by unfold maxLen; omega) s.f0 hsz ((c : Int) + 1) rfl rfl (WalkArith.wf_i64 (by omega)) ?_)
      intro w1 hm1 hg1
      have HM1 := Aside0.mk hm1
      have HG1 := Aside0.mk (GRes.below HG.out (show Below w.heap.size w w1 from pw_below_grown (HB.out.alloc HB.out.size _) _ (by have := HB.out.size; simp; omega) hg1 (fun j hj => by cases hj; exact Nat.le_refl _)))
      have HB1 := Aside0.mk (show Below w.heap.size w w1 from pw_below_grown (HB.out.alloc HB.out.size _) _ (by have := HB.out.size; simp; omega) hg1 (fun j hj => by cases hj; exact Nat.le_refl _))
      have hbl : w1.heap[wr.heap.size]? = some (.cells #[.string s.f0, .string s.f1] 59 (0, 0)) := blk_grown (blk_new wr _) hg1 (by have := HB.out.size; intro e; have e2 := Option.some.inj e; omega)
      have ha0 : w1.cell? ⟨wr.heap.size, 0, none⟩ = some (.string s.f0) := (blk_cell hbl 0).trans rfl
      have ha1 : w1.cell? ⟨wr.heap.size, 1, none⟩ = some (.string s.f1) := (blk_cell hbl 1).trans rfl
      have hlk2 := HM1.out.lookup s.f0 hsz
      have e2 : (upd (cntF (nmT l0 k)) s.f0 ((c : Int) + 1) s.f0).getD 0 = (c : Int) + 1 := by simp [upd]
      rw [e2] at hlk2
      have hd : l0.drop k = s :: l0.drop (k + 1) := by
        rw [HS.out, List.drop_eq_getElem_cons hlt]
        unfold rd_T59
        rw [Int.toNat_natCast, List.getD_eq_getElem?_getD, List.getElem?_eq_getElem hlt]
        rfl
      have hv := HV.out
      rw [hd, vsGo_cons] at hv
      rw [← Hc.out] at hv
      clear e2 hm1 hg1 hlk hx0 hx1 p102 q102 HW1
      by_cases hc0 : c = 0
      case neg =>
        rw [decide_eq_false hc0] at hv
        have HE := Aside0.mk (show vsGo [] l0 = false from hv.symm)
        have t1 : decide (1 < (c : Int) + 1) = true := decide_eq_true (by omega)
        clear hv hd hc0
        go_wp2
        go_ret
        exact ⟨by simp [HE.out], HB1.out⟩
      rw [decide_eq_true hc0, Bool.true_and] at hv
      have t1 : decide (1 < (c : Int) + 1) = false := decide_eq_false (by omega)
      cases hg : gnB s.f0
      case false =>
        rw [hg] at hv
        have HE := Aside0.mk (show vsGo [] l0 = false from hv.symm)
        have HN := Aside0.mk (show impl_goodName.f s.f0 = some false from congrArg some hg)
        clear hv hd hc0 hg
        go_wp2_with (go_at_call 30; (refine (impl_goodName.calls _ _ _ (by exact HG1.out) HN.out).mono ?_); rintro e w' ⟨rfl, ⟨nd, rfl⟩⟩)
        go_ret
        exact ⟨by simp [HE.out], pw_below_drewN HB1.out _⟩
      rw [hg, Bool.true_and] at hv
      have HN := Aside0.mk (show impl_goodName.f s.f0 = some true from congrArg some hg)
      clear hg
      by_cases h1 : s.f1.size ≤ 1000
      case neg =>
        rw [decide_eq_false h1] at hv
        have HE := Aside0.mk (show vsGo [] l0 = false from hv.symm)
        have t2 : decide (1000 < (s.f1.size : Int)) = true := decide_eq_true (by omega)
        have t3 : decide (1000 < s.f1.size) = true := decide_eq_true (by omega)
        clear hv hd hc0 h1
        go_wp2_with (go_at_call 30; (refine (impl_goodName.calls _ _ _ (by exact HG1.out) HN.out).mono ?_); rintro e w' ⟨rfl, ⟨nd, rfl⟩⟩)
        go_ret
        exact ⟨by simp [HE.out], pw_below_drewN HB1.out _⟩
      rw [decide_eq_true h1, Bool.true_and, HS.out, ← nmT_succ l0 k hlt] at hv
      have HE := Aside0.mk hv
      have hcn : upd (cntF (nmT l0 k)) s.f0 ((c : Int) + 1) = cntF (nmT l0 (k + 1)) := by
        rw [Hc.out, cntF_snoc, nmT_succ l0 k hlt, ← HS.out]
      have HM2 := Aside0.mk (hcn ▸ HM1.out)
      have t2 : decide (1000 < (s.f1.size : Int)) = false := decide_eq_false (by omega)
      have t3 : decide (1000 < s.f1.size) = false := decide_eq_false (by omega)
      clear hv hd hc0 h1 hcn
      go_wp2_with (go_at_call 30; (refine (impl_goodName.calls _ _ _ (by exact HG1.out) HN.out).mono ?_); rintro e w' ⟨rfl, ⟨nd, rfl⟩⟩)
      go_roundw
      case rel => exact ⟨k + 1, by omega, by go_num, ⟨HM2.out.drewN _⟩, HE, ⟨pw_below_drewN HB1.out _⟩⟩
      case measure => simp [intOf]; omega
    · obtain rfl : k = l0.length := by omega
      have HE := Aside0.mk (show vsGo [] l0 = true by rw [← HV.out, List.drop_length]; rfl)
      have ql : decide (l0.length < l0.length) = false := decide_eq_false hlt
      clear hlt hk
      go_wp2
      go_ret
      exact ⟨by simp [HE.out], HB.out⟩

end Go.Proofs.YtiicaoiijhodkaaDoor.Gp
