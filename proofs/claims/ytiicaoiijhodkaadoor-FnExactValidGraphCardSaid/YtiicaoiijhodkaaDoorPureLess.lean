/- The order of texts: the reference's function and the machine's comparison say the same. -/
import Derived.Test.YtiicaoiijhodkaaDoorGp6
import Derived.Test.YtiicaoiijhodkaaDoorEv
namespace Go.Proofs.YtiicaoiijhodkaaDoor.Gp
open Go.RowKit Go.Proofs.YtiicaoiijhodkaaDoorW.PrintWords

/-- One text is before another. -/
def ltB (a b : ByteArray) : Bool := Op.bytesLess a.data.toList b.data.toList
theorem bt_drop (a : ByteArray) (i : Nat) (h : i < a.size) : ∃ x : UInt8, a.data.toList.drop i = x :: a.data.toList.drop (i + 1) ∧ bt a (i : Int) = (x.toNat : Int) := by
  have hl : i < a.data.toList.length := by rw [data_length]; exact h
  refine ⟨a.data.toList[i], List.drop_eq_getElem_cons hl, ?_⟩
  unfold bt
  rw [dif_pos (by simpa using h)]
  rfl
theorem specLess_at (a b : ByteArray) (ha : a.size < 9223372036854775807) : ∀ (d i : Nat), a.size - i = d → i ≤ a.size → i ≤ b.size → Ev (fun k => spec_l1Less.l0 k a b i) (Op.bytesLess (a.data.toList.drop i) (b.data.toList.drop i)) := by
  intro d
  induction d with
  | zero =>
    intro i hd hi hb
    obtain rfl : i = a.size := by omega
    have e : a.data.toList.drop a.size = [] := List.drop_of_length_le (by rw [data_length]; exact Nat.le_refl _)
    refine Ev.shift ?_
    simp only [spec_l1Less.l0, if_neg (show ¬ (a.size : Int) < (a.size : Int) by omega)]
    refine Ev.shift ?_
    simp only [spec_l1Less.j1, Bool.false_eq_true, if_false]
    rw [e]
    by_cases h : a.size < b.size
    · obtain ⟨y, hy, _⟩ := bt_drop b a.size h
      rw [hy]
      exact Ev.const (by simp [Op.bytesLess]; omega)
    · have e2 : b.data.toList.drop a.size = [] := List.drop_of_length_le (by rw [data_length]; omega)
      rw [e2]
      exact Ev.const (by simp [Op.bytesLess]; omega)
  | succ d ih =>
    intro i hd hi hb
    refine Ev.shift ?_
    simp only [spec_l1Less.l0, if_pos (show (i : Int) < (a.size : Int) by omega)]
    refine Ev.shift ?_
    by_cases h : i < b.size
    · have h' : decide ((i : Int) < (b.size : Int)) = true := decide_eq_true (by omega)
      simp only [spec_l1Less.j1, h', if_true, if_pos (show (0 : Int) ≤ (i : Int) by omega), if_pos (show (i : Int) < (a.size : Int) by omega), if_pos (show (i : Int) < (b.size : Int) by omega)]
      obtain ⟨x, hx, ex⟩ := bt_drop a i (by omega)
      obtain ⟨y, hy, ey⟩ := bt_drop b i h
      rw [hx, hy, ex, ey]
      by_cases e : x = y
      · subst e
        simp only [if_true, wrap_nat i (by omega)]
        have hr : Op.bytesLess (x :: a.data.toList.drop (i + 1)) (x :: b.data.toList.drop (i + 1)) = Op.bytesLess (a.data.toList.drop (i + 1)) (b.data.toList.drop (i + 1)) := by simp [Op.bytesLess]
        rw [hr]
        exact ih (i + 1) (by omega) (by omega) (by omega)
      · have hne : ¬ (x.toNat : Int) = (y.toNat : Int) := fun h => e (UInt8.toNat_inj.1 (by omega))
        simp only [if_neg hne]
        have hr : Op.bytesLess (x :: a.data.toList.drop (i + 1)) (y :: b.data.toList.drop (i + 1)) = decide ((x.toNat : Int) < (y.toNat : Int)) := by
          have hb2 : (x == y) = false := by simpa using e
          simp only [Op.bytesLess, hb2, Bool.false_and, Bool.or_false]
          exact decide_eq_decide.2 ⟨fun h => by have := UInt8.lt_iff_toNat_lt.1 h; omega, fun h => UInt8.lt_iff_toNat_lt.2 (by omega)⟩
        rw [hr]
        exact Ev.now _
    · have h' : decide ((i : Int) < (b.size : Int)) = false := decide_eq_false (by omega)
      simp only [spec_l1Less.j1, h', Bool.false_eq_true, if_false]
      obtain rfl : i = b.size := by omega
      have e2 : b.data.toList.drop b.size = [] := List.drop_of_length_le (by rw [data_length]; exact Nat.le_refl _)
      rw [e2]
      exact Ev.const (by simp [Op.bytesLess]; omega)
theorem specLess (a b : ByteArray) (ha : a.size < 9223372036854775807) : Ev (fun k => spec_l1Less.f k a b) (ltB a b) := specLess_at a b ha _ 0 rfl (Nat.zero_le _) (Nat.zero_le _)
end Go.Proofs.YtiicaoiijhodkaaDoor.Gp
