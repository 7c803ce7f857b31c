/- ValidSources: the law's plain function answers true for all sources whose texts a machine can hold. -/
import Derived.Test.YtiicaoiijhodkaaDoorGp5
import Derived.Test.YtiicaoiijhodkaaDoorGp1
import Derived.Test.YtiicaoiijhodkaaDoorGp2
import Derived.Test.YtiicaoiijhodkaaDoorGp4
import Derived.Test.YtiicaoiijhodkaaDoorPureNames
namespace Go.Proofs.YtiicaoiijhodkaaDoor.Gp
open Go.RowKit Go.Proofs.YtiicaoiijhodkaaDoorW.PrintWords

theorem szSource_ev (s : S58) (left : Int) (h0 : 0 ≤ left) (h1 : left ≤ 1048576) (hz : s.f0.size ≤ maxLen ∧ s.f1.size ≤ maxLen) :
    ∃ t, Ev (fun _ => laws_szSource.f s.f0 s.f1 left) t ∧ (t < 0 ∨ (0 ≤ t ∧ t ≤ left ∧ s.f0.size ≤ 1048576)) := by
  obtain ⟨hz0, hz1⟩ := hz
  unfold maxLen at hz0 hz1
  have e1 : wrap64 (left - (s.f0.size : Int)) = left - s.f0.size := by unfold wrap64; omega
  unfold laws_szSource.f
  rw [e1]
  by_cases c1 : left - (s.f0.size : Int) < 0
  · simp only [if_pos c1]
    exact ⟨-1, Ev.now _, .inl (by omega)⟩
  simp only [if_neg c1]
  have e2 : wrap64 (left - (s.f0.size : Int) - (s.f1.size : Int)) = left - s.f0.size - s.f1.size := by unfold wrap64; omega
  rw [e2]
  by_cases c2 : left - (s.f0.size : Int) - (s.f1.size : Int) < 0
  · simp only [if_pos c2]
    exact ⟨-1, Ev.now _, .inl (by omega)⟩
  simp only [if_neg c2]
  exact ⟨_, Ev.now _, .inr ⟨by omega, by omega, by omega⟩⟩
theorem szSourceS_ev (l : List S58) (hl : l.length ≤ maxLen) (hz : ∀ s ∈ l, s.f0.size ≤ maxLen ∧ s.f1.size ≤ maxLen) :
    ∃ t, (t < 0 ∨ (l.length ≤ 1048576 ∧ ∀ s ∈ l, s.f0.size ≤ 1048576)) ∧ Ev (fun k => laws_szSourceS.f k l 1048576) t := by
  unfold maxLen at hl
  unfold laws_szSourceS.f
  have e1 : wrap64 (1048576 - (l.length : Int)) = 1048576 - l.length := by unfold wrap64; omega
  rw [e1]
  by_cases c1 : 1048576 - (l.length : Int) < 0
  · simp only [if_pos c1]
    exact ⟨-1, .inl (by omega), Ev.now _⟩
  simp only [if_neg c1]
  obtain ⟨t, ht, hev⟩ := sz_loop z58 (fun _ s left => laws_szSource.f s.f0 s.f1 left) laws_szSourceS.l0 1048576 (fun _ _ _ _ => rfl) (fun s => s.f0.size ≤ maxLen ∧ s.f1.size ≤ maxLen) (fun s => s.f0.size ≤ 1048576)
    szSource_ev l (by omega) hz (1048576 - (l.length : Int)) (by omega) (by omega)
  exact ⟨t, ht.imp id (fun h => ⟨by omega, h.2.2⟩), hev⟩
def convSource (s : S58) : S59 := ⟨s.f0, s.f1⟩
theorem toSourceS_ev (l : List S58) (hl : l.length ≤ 1048576) : Ev (fun k => laws_toSourceS.f k l) (l.map convSource) := by
  unfold laws_toSourceS.f
  simp only [if_pos (show 0 ≤ (l.length : Int) by omega), Int.toNat_natCast, if_pos (show l.length ≤ 8796093022208 by omega)]
  exact to_loop z58 (fun _ s => some (s.f0, s.f1)) (fun t => (⟨t.1, t.2⟩ : S59)) laws_toSourceS.l0 (fun _ _ _ _ => rfl) convSource l (fun x _ => ⟨_, Ev.now _, rfl⟩) (by omega) _ (by simp)
theorem eqSourceS_ev (l : List S59) (hl : l.length ≤ 1048576) : Ev (fun k => laws_eqSourceS.f k l l) true := by
  unfold laws_eqSourceS.f
  simp only [if_true]
  exact eq_loop z59 (fun _ x y => laws_eqSource.f x.f0 x.f1 y.f0 y.f1) laws_eqSourceS.l0 (fun _ _ _ _ => rfl) l (fun x _ => Ev.const (by simp [laws_eqSource.f])) (by omega)

/-! The reference's ValidSources. -/
def vsPre (l : List S59) (i : Nat) : Bool := vsGo (nmT l i) (l.drop i)
theorem cntA_pos (l : List S59) (i : Nat) (hi : i ≤ l.length) (s : ByteArray) : cntA (nmT l i) s = 0 ↔ ∀ j : Nat, j < i → (rd_T59 l j).f0 ≠ s := by
  induction i with
  | zero => simp [cntA, nmT]
  | succ i ih =>
    rw [nmT_succ l i (by omega)]
    unfold cntA at ih ⊢
    rw [List.countP_append]
    constructor
    · intro h j hj
      have h1 : (List.countP (fun t => decide (t = s)) (nmT l i)) = 0 := by omega
      rcases Nat.lt_succ_iff_lt_or_eq.1 hj with hj | rfl
      · exact (ih (by omega)).1 h1 j hj
      · intro e
        simp [e] at h
    · intro h
      have h1 := (ih (by omega)).2 (fun j hj => h j (by omega))
      have h2 := h i (by omega)
      rw [h1]
      simp [h2]
theorem spec_inner (l : List S59) (i : Nat) (hi : i < l.length) (hl : l.length ≤ 8) : ∀ (j : Nat), j ≤ i → (∀ q : Nat, q < j → (rd_T59 l q).f0 ≠ (rd_T59 l i).f0) →
    ∀ r, ((cntA (nmT l i) (rd_T59 l i).f0 = 0 → Ev (fun k => spec_ValidSources.l0 k l ((i + 1 : Nat) : Int)) r) ∧ (cntA (nmT l i) (rd_T59 l i).f0 ≠ 0 → r = false)) → Ev (fun k => spec_ValidSources.l1 k l i j) r := by
  have key : ∀ (d j : Nat), i - j = d → j ≤ i → (∀ q : Nat, q < j → (rd_T59 l q).f0 ≠ (rd_T59 l i).f0) →
      ∀ r, ((cntA (nmT l i) (rd_T59 l i).f0 = 0 → Ev (fun k => spec_ValidSources.l0 k l ((i + 1 : Nat) : Int)) r) ∧ (cntA (nmT l i) (rd_T59 l i).f0 ≠ 0 → r = false)) → Ev (fun k => spec_ValidSources.l1 k l i j) r := by
    intro d
    induction d with
    | zero =>
      intro j hd hj hq r hr
      obtain rfl : j = i := by omega
      refine Ev.shift ?_
      simp only [spec_ValidSources.l1, if_neg (show ¬ (j : Int) < (j : Int) by omega), wrap_nat j (by omega)]
      exact hr.1 ((cntA_pos l j (by omega) _).2 hq)
    | succ d ih =>
      intro j hd hj hq r hr
      refine Ev.shift ?_
      simp only [spec_ValidSources.l1, if_pos (show (j : Int) < (i : Int) by omega), if_pos (show (0 : Int) ≤ (i : Int) by omega), if_pos (show (i : Int) < (l.length : Int) by omega), if_pos (show (0 : Int) ≤ (j : Int) by omega), if_pos (show (j : Int) < (l.length : Int) by omega)]
      by_cases e : (rd_T59 l i).f0.toList = (rd_T59 l j).f0.toList
      · simp only [if_pos e]
        rw [Lib.toList_data, Lib.toList_data] at e
        have e2 := data_inj0 e
        rw [hr.2 (fun h => (cntA_pos l i (by omega) _).1 h j (by omega) e2.symm)]
        exact Ev.now _
      · simp only [if_neg e, wrap_nat j (by omega)]
        refine ih (j + 1) (by omega) (by omega) (fun q hq' => ?_) r hr
        rcases Nat.lt_succ_iff_lt_or_eq.1 hq' with h | rfl
        · exact hq q h
        · exact fun h => e (by rw [h])
  exact fun j => key (i - j) j rfl
theorem drop_rd (l : List S59) (i : Nat) (hi : i < l.length) : l.drop i = rd_T59 l i :: l.drop (i + 1) := by
  rw [List.drop_eq_getElem_cons hi]
  unfold rd_T59
  rw [Int.toNat_natCast, List.getD_eq_getElem?_getD, List.getElem?_eq_getElem hi]
  rfl
theorem spec_loop (l : List S59) (hl : l.length ≤ 8) : ∀ (d i : Nat), l.length - i = d → i ≤ l.length → Ev (fun k => spec_ValidSources.l0 k l i) (vsPre l i) := by
  intro d
  induction d with
  | zero =>
    intro i hd hi
    obtain rfl : i = l.length := by omega
    refine Ev.shift ?_
    simp only [spec_ValidSources.l0, if_neg (show ¬ (l.length : Int) < (l.length : Int) by omega)]
    unfold vsPre
    rw [List.drop_length]
    exact Ev.now _
  | succ d ih =>
    intro i hd hi
    have hlt : i < l.length := by omega
    have e : vsPre l i = (decide (cntA (nmT l i) (rd_T59 l i).f0 = 0) && gnB (rd_T59 l i).f0 && decide ((rd_T59 l i).f1.size ≤ 1000) && vsPre l (i + 1)) := by
      unfold vsPre
      rw [drop_rd l i hlt, vsGo_cons, nmT_succ l i hlt]
    refine Ev.shift ?_
    simp only [spec_ValidSources.l0, if_pos (show (i : Int) < (l.length : Int) by omega), if_pos (show (0 : Int) ≤ (i : Int) by omega)]
    refine Ev.bind (specGood _) ?_
    have bad : vsPre l i = false → ∀ b : Bool, b = true → Ev (fun k => spec_ValidSources.j1 k l i b) (vsPre l i) := fun hv b hb => by
      refine Ev.shift ?_
      simp only [spec_ValidSources.j1, hb, if_true]
      rw [hv]
      exact Ev.now _
    cases hg : gnB (rd_T59 l i).f0
    · simp only [Bool.false_eq_true, if_false]
      exact bad (by rw [e, hg]; simp) _ rfl
    simp only [if_true]
    by_cases h1 : (((rd_T59 l i).f1).size : Int) > 1000
    · exact bad (by rw [e, decide_eq_false (show ¬ (rd_T59 l i).f1.size ≤ 1000 by omega)]; simp) _ (decide_eq_true h1)
    have h1' : decide ((((rd_T59 l i).f1).size : Int) > 1000) = false := decide_eq_false h1
    rw [h1']
    refine Ev.shift ?_
    simp only [spec_ValidSources.j1, Bool.false_eq_true, if_false]
    refine spec_inner l i hlt hl 0 (Nat.zero_le _) (fun q hq => by omega) _ ⟨fun h => ?_, fun h => ?_⟩
    · have e2 : vsPre l i = vsPre l (i + 1) := by rw [e, hg, decide_eq_true h, decide_eq_true (show (rd_T59 l i).f1.size ≤ 1000 by omega)]; rfl
      rw [e2]
      exact ih (i + 1) (by omega) (by omega)
    · rw [e, decide_eq_false h]
      rfl
theorem specValidSources (l : List S59) : Ev (fun k => spec_ValidSources.f k l) (decide (l.length ≤ 8) && vsGo [] l) := by
  unfold spec_ValidSources.f
  by_cases c : (l.length : Int) > 8
  · simp only [if_pos c]
    rw [decide_eq_false (by omega)]
    exact Ev.now _
  simp only [if_neg c]
  rw [decide_eq_true (by omega), Bool.true_and]
  exact spec_loop l (by omega) _ 0 rfl (Nat.zero_le _)
/-- The law's plain function answers true. -/
theorem validSources_true (l : List S58) (hl : l.length ≤ maxLen) (hz : ∀ s ∈ l, s.f0.size ≤ maxLen ∧ s.f1.size ≤ maxLen) : Ev (fun k => laws_FnExactValidSources.f k l) true := by
  unfold laws_FnExactValidSources.f
  obtain ⟨t, ht, hev⟩ := szSourceS_ev l hl hz
  refine Ev.bind hev ?_
  by_cases c : t < 0
  · simp only [if_pos c]
    exact Ev.now _
  simp only [if_neg c]
  obtain ⟨hl1, hz1⟩ := ht.resolve_left c
  have hto := toSourceS_ev l hl1
  have hok : vsOk (l.map convSource) := fun s hs => by
    obtain ⟨x, hx, rfl⟩ := List.mem_map.1 hs
    have := hz1 x hx
    show x.f0.size ≤ _
    omega
  refine Ev.bind hto (Ev.bind (specValidSources _) (Ev.bind hto (Ev.bind (a := decide ((l.map convSource).length ≤ 8) && vsGo [] (l.map convSource)) (Ev.const (by unfold impl_ValidSources.f; rw [if_pos hok])) ?_)))
  simp only [bne_self_eq_false, Bool.false_eq_true, if_false]
  refine Ev.bind hto (Ev.bind (eqSourceS_ev _ (by simpa using hl1)) ?_)
  simp only [if_true]
  exact Ev.now _
end Go.Proofs.YtiicaoiijhodkaaDoor.Gp
