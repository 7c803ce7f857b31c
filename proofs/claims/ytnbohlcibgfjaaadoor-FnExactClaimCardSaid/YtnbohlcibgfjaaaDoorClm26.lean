/- A part of the proof of RowFnExactClaim: each text's theorems that it needs, packed by shake.py, a program of this work; Lean checks them. -/
import Derived.Test.YtnbohlcibgfjaaaDoorClm10
import Derived.Test.YtnbohlcibgfjaaaDoorClm25
import Derived.Test.YtnbohlcibgfjaaaDoorClm9
import Derived.Test.YtnbohlcibgfjaaaDoorClm3
section
namespace Go.Proofs.YtnbohlcibgfjaaaDoor.Gp
open Go.RowKit Go.Proofs.YtnbohlcibgfjaaaDoorW.PrintWords
/-- One text is before another. -/
def ltB (a b : ByteArray) : Bool := Op.bytesLess a.data.toList b.data.toList
theorem bt_drop (a : ByteArray) (i : Nat) (h : i < a.size) : ∃ x : UInt8, a.data.toList.drop i = x :: a.data.toList.drop (i + 1) ∧ bt a (i : Int) = (x.toNat : Int) := by
 have hl : i < a.data.toList.length := by rw [data_length]; exact h
 refine ⟨a.data.toList[i], List.drop_eq_getElem_cons hl, ?_⟩
 unfold bt
 rw [dif_pos (by simpa using h)]
 rfl
theorem specLess_at (a b : ByteArray) (ha : a.size < 9223372036854775807) : ∀ (d i : Nat), a.size - i = d → i ≤ a.size → i ≤ b.size → Ev (fun k => spec_l1Less.l0 k a b i) (Op.bytesLess (a.data.toList.drop i) (b.data.toList.drop i)) := by
 intro d
 induction d with
 | zero =>
  intro i hd hi hb
  obtain rfl : i = a.size := by omega
  have e : a.data.toList.drop a.size = [] := List.drop_of_length_le (by rw [data_length]; exact Nat.le_refl _)
  refine Ev.shift ?_
  simp only [spec_l1Less.l0, if_neg (show ¬ (a.size : Int) < (a.size : Int) by omega)]
  refine Ev.shift ?_
  simp only [spec_l1Less.j1, Bool.false_eq_true, if_false]
  rw [e]
  by_cases h : a.size < b.size
  · obtain ⟨y, hy, _⟩ := bt_drop b a.size h
    rw [hy]
    exact Ev.const (by simp [Op.bytesLess]; omega)
  have e2 : b.data.toList.drop a.size = [] := List.drop_of_length_le (by rw [data_length]; omega)
  rw [e2]
  exact Ev.const (by simp [Op.bytesLess]; omega)
 | succ d ih =>
  intro i hd hi hb
  refine Ev.shift ?_
  simp only [spec_l1Less.l0, if_pos (show (i : Int) < (a.size : Int) by omega)]
  refine Ev.shift ?_
  by_cases h : i < b.size
  ·
   have h' : decide ((i : Int) < (b.size : Int)) = true := decide_eq_true (by omega)
   simp only [spec_l1Less.j1, h', if_true, if_pos (show (0 : Int) ≤ (i : Int) by omega), if_pos (show (i : Int) < (a.size : Int) by omega), if_pos (show (i : Int) < (b.size : Int) by omega)]
   obtain ⟨x, hx, ex⟩ := bt_drop a i (by omega)
   obtain ⟨y, hy, ey⟩ := bt_drop b i h
   rw [hx, hy, ex, ey]
   by_cases e : x = y
   · subst e
     simp only [if_true, wrap_nat i (by omega)]
     have hr : Op.bytesLess (x :: a.data.toList.drop (i + 1)) (x :: b.data.toList.drop (i + 1)) = Op.bytesLess (a.data.toList.drop (i + 1)) (b.data.toList.drop (i + 1)) := by simp [Op.bytesLess]
     rw [hr]
     exact ih (i + 1) (by omega) (by omega) (by omega)
   have hne : ¬ (x.toNat : Int) = (y.toNat : Int) := fun h => e (UInt8.toNat_inj.1 (by omega))
   simp only [if_neg hne]
   have hr : Op.bytesLess (x :: a.data.toList.drop (i + 1)) (y :: b.data.toList.drop (i + 1)) = decide ((x.toNat : Int) < (y.toNat : Int)) := by
    have hb2 : (x == y) = false := by simpa using e
    simp only [Op.bytesLess, hb2, Bool.false_and, Bool.or_false]
    exact decide_eq_decide.2 ⟨fun h => by have := UInt8.lt_iff_toNat_lt.1 h; omega, fun h => UInt8.lt_iff_toNat_lt.2 (by omega)⟩
   rw [hr]
   exact Ev.now _
  have h' : decide ((i : Int) < (b.size : Int)) = false := decide_eq_false (by omega)
  simp only [spec_l1Less.j1, h', Bool.false_eq_true, if_false]
  obtain rfl : i = b.size := by omega
  have e2 : b.data.toList.drop b.size = [] := List.drop_of_length_le (by rw [data_length]; exact Nat.le_refl _)
  rw [e2]
  exact Ev.const (by simp [Op.bytesLess]; omega)
theorem specLess (a b : ByteArray) (ha : a.size < 9223372036854775807) : Ev (fun k => spec_l1Less.f k a b) (ltB a b) := specLess_at a b ha _ 0 rfl (Nat.zero_le _) (Nat.zero_le _)
end Go.Proofs.YtnbohlcibgfjaaaDoor.Gp
end
section
namespace Go.Proofs.YtnbohlcibgfjaaaDoor.Gp
open Go.RowKit
theorem blt_irrefl : ∀ a : List UInt8, Op.bytesLess a a = false
 | [] => rfl
 | x :: r => by simp [Op.bytesLess, blt_irrefl r, UInt8.lt_irrefl]
theorem blt_trans : ∀ a b c : List UInt8, Op.bytesLess a b = true → Op.bytesLess b c = true → Op.bytesLess a c = true
 | [], [], _, h, _ => by simp [Op.bytesLess] at h
 | [], _ :: _, [], _, h => by simp [Op.bytesLess] at h
 | [], _ :: _, _ :: _, _, _ => by simp [Op.bytesLess]
 | _ :: _, [], _, h, _ => by simp [Op.bytesLess] at h
 | _ :: _, _ :: _, [], _, h => by simp [Op.bytesLess] at h
 | x :: a, y :: b, z :: c, h, k => by
  simp only [Op.bytesLess, Bool.or_eq_true, decide_eq_true_eq, Bool.and_eq_true, beq_iff_eq, UInt8.lt_iff_toNat_lt] at h k ⊢
  rcases h with h | ⟨rfl, h⟩
  · rcases k with k | ⟨rfl, k⟩
    · exact .inl (by omega)
    exact .inl h
  rcases k with k | ⟨rfl, k⟩
  · exact .inl k
  exact .inr ⟨rfl, blt_trans a b c h k⟩
theorem blt_tri : ∀ a b : List UInt8, Op.bytesLess a b = false → Op.bytesLess b a = false → a = b
 | [], [], _, _ => rfl
 | [], _ :: _, h, _ => by simp [Op.bytesLess] at h
 | _ :: _, [], _, h => by simp [Op.bytesLess] at h
 | x :: a, y :: b, h, k => by
  simp only [Op.bytesLess, Bool.or_eq_false_iff, decide_eq_false_iff_not, UInt8.lt_iff_toNat_lt] at h k
  have e : x = y := UInt8.toNat_inj.1 (by omega)
  subst e
  simp only [beq_self_eq_true, Bool.true_and] at h k
  rw [blt_tri a b h.2 k.2]
theorem ltB_irrefl (a : ByteArray) : ltB a a = false := blt_irrefl _
theorem ltB_trans {a b c : ByteArray} (h : ltB a b = true) (k : ltB b c = true) : ltB a c = true := blt_trans _ _ _ h k
theorem ltB_tri {a b : ByteArray} (h : ltB a b = false) (k : ltB b a = false) : a = b := data_inj0 (blt_tri _ _ h k)
end Go.Proofs.YtnbohlcibgfjaaaDoor.Gp
end
section
namespace Go.Proofs.YtnbohlcibgfjaaaDoor.Gp
open Go.RowKit Go.Proofs.YtnbohlcibgfjaaaDoorW.PrintWords
theorem specWord_wb (b : Int) : spec_l1WordByte.f b = some (wb b) := by
 unfold spec_l1WordByte.f wb
 by_cases h1 : b ≥ 97
 ·
  by_cases h2 : b ≤ 122
  · simp [h1, h2]
  by_cases h3 : b ≥ 48
  · by_cases h4 : b ≤ 57 <;> simp [h1, h2, h3, h4]
  simp [h1, h2, h3]
 by_cases h3 : b ≥ 48
 · by_cases h4 : b ≤ 57 <;> simp [h1, h3, h4]
 simp [h1, h3]
theorem specReserved (a : ByteArray) : spec_l1Reserved.f a = some (resB a.data.toList) := by
 unfold spec_l1Reserved.f
 rw [Lib.toList_data]
 generalize a.data.toList = l
 unfold resB rwords
 repeat' split
 all_goals first | (subst_vars; rfl) | skip
 rename_i h1 h2 h3 h4 h5 h6 h7 h8 h9 h10
 simp [h1, h2, h3, h4, h5, h6, h7, h8, h9, h10]
 rw [Bool.eq_iff_iff, beq_iff_eq, decide_eq_true_iff]
theorem gn_loop (s : ByteArray) (hs : s.size ≤ 12) : Ev (fun k => spec_l1GoodName.l0 k s 0) (decide (∀ i : Nat, i < s.size → wb (bt s i) = true) && !resB s.data.toList) := by
 refine Exists.elim (ev_loop (fun k (_ : Unit) (i : Nat) => spec_l1GoodName.l0 k s i) s.size (fun i _ => ∀ j : Nat, j < i → wb (bt s j) = true) (fun r => r = (decide (∀ i : Nat, i < s.size → wb (bt s i) = true) && !resB s.data.toList)) ?_ ?_ 0 () (Nat.zero_le _) (fun j hj => by omega)) (fun r h => by obtain ⟨rfl, hr⟩ := h; exact hr)
 ·
  rintro i - hi hP
  have c1 : (i : Int) < (s.size : Int) := by omega
  have c2 : 0 ≤ (i : Int) := by omega
  cases hw : wb (bt s i)
  · refine .inl ⟨false, ?_, Ev.shift ?_⟩
    · rw [decide_eq_false (fun h => by rw [h i hi] at hw; cases hw)]
      rfl
    simp only [spec_l1GoodName.l0, if_pos c1, if_pos c2, specWord_wb, hw, Option.bind_some]
    exact Ev.now _
  refine .inr ⟨(), fun j hj => ?_, fun r hr => Ev.shift ?_⟩
  · rcases Nat.lt_succ_iff_lt_or_eq.1 hj with h | rfl
    · exact hP j h
    exact hw
  simp only [spec_l1GoodName.l0, if_pos c1, if_pos c2, specWord_wb, hw, Option.bind_some, if_true, wrap_nat i (by omega)]
  exact hr
 rintro - hP
 have c1 : ¬ (s.size : Int) < (s.size : Int) := by omega
 refine ⟨_, rfl, Ev.shift ?_⟩
 simp only [spec_l1GoodName.l0, if_neg c1, specReserved, Option.bind_some]
 rw [decide_eq_true hP]
 exact Ev.now _
theorem specGood (s : ByteArray) : Ev (fun k => spec_l1GoodName.f k s) (gnB s) := by
 unfold spec_l1GoodName.f
 have bad : ∀ b : Bool, b = true → Ev (fun k => spec_l1GoodName.j0 k s b) false := fun b hb => by
  refine Ev.shift ?_
  simp only [spec_l1GoodName.j0, hb, if_true]
  exact Ev.now _
 by_cases c1 : (s.size : Int) < 1
 · simp only [if_pos c1]
   rw [show gnB s = false from decide_eq_false (by omega)]
   exact bad _ rfl
 simp only [if_neg c1]
 by_cases c2 : (s.size : Int) > 12
 · simp only [if_pos c2]
   rw [show gnB s = false from decide_eq_false (by omega)]
   exact bad _ rfl
 simp only [if_neg c2, if_pos (show 0 < (s.size : Int) by omega)]
 by_cases c3 : bt s 0 < 97
 · simp only [if_pos c3]
   rw [show gnB s = false from decide_eq_false (by omega)]
   exact bad _ rfl
 simp only [if_neg c3]
 by_cases c4 : bt s 0 > 122
 · rw [show gnB s = false from decide_eq_false (by omega)]
   exact bad _ (decide_eq_true c4)
 have c4' : decide (bt s 0 > 122) = false := decide_eq_false c4
 rw [c4']
 refine Ev.shift ?_
 simp only [spec_l1GoodName.j0]
 have e : gnB s = (decide (∀ i : Nat, i < s.size → wb (bt s i) = true) && !resB s.data.toList) := by
  unfold gnB
  cases hr : resB s.data.toList
  · simp only [Bool.not_false, Bool.and_true]
    exact decide_eq_decide.2 ⟨fun h => h.2.2.2.2.2, fun h => ⟨by omega, by omega, trivial, by omega, by omega, h⟩⟩
  simp
 rw [e]
 exact gn_loop s (by omega)
end Go.Proofs.YtnbohlcibgfjaaaDoor.Gp
end
