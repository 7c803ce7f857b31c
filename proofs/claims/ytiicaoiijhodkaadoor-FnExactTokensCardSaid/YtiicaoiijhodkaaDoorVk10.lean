/- A part of the proof of RowFnExactTokens: each text's theorems that it needs, packed by shake.py, a program of this work; Lean checks them. -/
import Derived.Test.YtiicaoiijhodkaaDoorVk2
import Derived.Test.YtiicaoiijhodkaaDoorVk9
import Derived.Test.YtiicaoiijhodkaaDoorVk8
import Derived.Test.YtiicaoiijhodkaaDoorVk4
import Derived.Test.YtiicaoiijhodkaaDoorVk3
import Derived.Test.YtiicaoiijhodkaaDoorVk6
import Derived.Test.YtiicaoiijhodkaaDoorVk5
import Derived.Test.YtiicaoiijhodkaaDoorVk7
section
namespace Go.Proofs.YtiicaoiijhodkaaDoor.Gp
open Go.RowKit Go.Proofs.YtiicaoiijhodkaaDoorW.PrintWords
theorem specWord_wb (b : Int) : spec_l1WordByte.f b = some (wb b) := by
  unfold spec_l1WordByte.f wb
  by_cases h1 : b ≥ 97
  · by_cases h2 : b ≤ 122
    · simp [h1, h2]
    · by_cases h3 : b ≥ 48
      · by_cases h4 : b ≤ 57 <;> simp [h1, h2, h3, h4]
      · simp [h1, h2, h3]
  · by_cases h3 : b ≥ 48
    · by_cases h4 : b ≤ 57 <;> simp [h1, h3, h4]
    · simp [h1, h3]
theorem specReserved (a : ByteArray) : spec_l1Reserved.f a = some (resB a.data.toList) := by
  unfold spec_l1Reserved.f
  rw [Lib.toList_data]
  generalize a.data.toList = l
  unfold resB rwords
  repeat' split
  all_goals first | (subst_vars; rfl) | skip
  rename_i h1 h2 h3 h4 h5 h6 h7 h8 h9 h10
  simp [h1, h2, h3, h4, h5, h6, h7, h8, h9, h10]
  rw [Bool.eq_iff_iff, beq_iff_eq, decide_eq_true_iff]
theorem gn_loop (s : ByteArray) (hs : s.size ≤ 12) : Ev (fun k => spec_l1GoodName.l0 k s 0) (decide (∀ i : Nat, i < s.size → wb (bt s i) = true) && !resB s.data.toList) := by
  refine Exists.elim (ev_loop (fun k (_ : Unit) (i : Nat) => spec_l1GoodName.l0 k s i) s.size (fun i _ => ∀ j : Nat, j < i → wb (bt s j) = true) (fun r => r = (decide (∀ i : Nat, i < s.size → wb (bt s i) = true) && !resB s.data.toList)) ?_ ?_ 0 () (Nat.zero_le _) (fun j hj => by omega)) (fun r h => by obtain ⟨rfl, hr⟩ := h; exact hr)
  · rintro i - hi hP
    have c1 : (i : Int) < (s.size : Int) := by omega
    have c2 : 0 ≤ (i : Int) := by omega
    cases hw : wb (bt s i)
    · refine .inl ⟨false, ?_, Ev.shift ?_⟩
      · rw [decide_eq_false (fun h => by rw [h i hi] at hw; cases hw)]
        rfl
      · simp only [spec_l1GoodName.l0, if_pos c1, if_pos c2, specWord_wb, hw, Option.bind_some]
        exact Ev.now _
    · refine .inr ⟨(), fun j hj => ?_, fun r hr => Ev.shift ?_⟩
      · rcases Nat.lt_succ_iff_lt_or_eq.1 hj with h | rfl
        · exact hP j h
        · exact hw
      · simp only [spec_l1GoodName.l0, if_pos c1, if_pos c2, specWord_wb, hw, Option.bind_some, if_true, wrap_nat i (by omega)]
        exact hr
  · rintro - hP
    have c1 : ¬ (s.size : Int) < (s.size : Int) := by omega
    refine ⟨_, rfl, Ev.shift ?_⟩
    simp only [spec_l1GoodName.l0, if_neg c1, specReserved, Option.bind_some]
    rw [decide_eq_true hP]
    exact Ev.now _
theorem specGood (s : ByteArray) : Ev (fun k => spec_l1GoodName.f k s) (gnB s) := by
  unfold spec_l1GoodName.f
  have bad : ∀ b : Bool, b = true → Ev (fun k => spec_l1GoodName.j0 k s b) false := fun b hb => by
    refine Ev.shift ?_
    simp only [spec_l1GoodName.j0, hb, if_true]
    exact Ev.now _
  by_cases c1 : (s.size : Int) < 1
  · simp only [if_pos c1]
    rw [show gnB s = false from decide_eq_false (by omega)]
    exact bad _ rfl
  simp only [if_neg c1]
  by_cases c2 : (s.size : Int) > 12
  · simp only [if_pos c2]
    rw [show gnB s = false from decide_eq_false (by omega)]
    exact bad _ rfl
  simp only [if_neg c2, if_pos (show 0 < (s.size : Int) by omega)]
  by_cases c3 : bt s 0 < 97
  · simp only [if_pos c3]
    rw [show gnB s = false from decide_eq_false (by omega)]
    exact bad _ rfl
  simp only [if_neg c3]
  by_cases c4 : bt s 0 > 122
  · rw [show gnB s = false from decide_eq_false (by omega)]
    exact bad _ (decide_eq_true c4)
  have c4' : decide (bt s 0 > 122) = false := decide_eq_false c4
  rw [c4']
  refine Ev.shift ?_
  simp only [spec_l1GoodName.j0]
  have e : gnB s = (decide (∀ i : Nat, i < s.size → wb (bt s i) = true) && !resB s.data.toList) := by
    unfold gnB
    cases hr : resB s.data.toList
    · simp only [Bool.not_false, Bool.and_true]
      exact decide_eq_decide.2 ⟨fun h => h.2.2.2.2.2, fun h => ⟨by omega, by omega, trivial, by omega, by omega, h⟩⟩
    · simp
  rw [e]
  exact gn_loop s (by omega)
end Go.Proofs.YtiicaoiijhodkaaDoor.Gp
end
section
namespace Go.Proofs.YtiicaoiijhodkaaDoor.Gp
open Go.RowKit Go.Proofs.YtiicaoiijhodkaaDoorW.PrintWords
/-- The end of a run of bytes. -/
theorem run_ex (s : ByteArray) (P : Int → Bool) : ∀ (d i : Nat), s.size - i = d → i ≤ s.size → ∃ j, i ≤ j ∧ j ≤ s.size ∧ (∀ m : Nat, i ≤ m → m < j → P (bt s m) = true) ∧ (j = s.size ∨ (j < s.size ∧ P (bt s j) = false))
  | 0, i, hd, hi => ⟨i, Nat.le_refl _, hi, fun m h1 h2 => by omega, .inl (by omega)⟩
  | d + 1, i, hd, hi => by
    cases hp : P (bt s i) with
    | false => exact ⟨i, Nat.le_refl _, hi, fun m h1 h2 => by omega, .inr ⟨by omega, hp⟩⟩
    | true =>
      obtain ⟨j, h1, h2, h3, h4⟩ := run_ex s P d (i + 1) (by omega) (by omega)
      refine ⟨j, by omega, h2, fun m hm hj => ?_, h4⟩
      rcases Nat.eq_or_lt_of_le hm with rfl | h
      · exact hp
      · exact h3 m h hj
theorem wrap_nn (i n : Nat) (h : i + n ≤ 5000) : wrap64 ((i : Int) + (n : Int)) = ((i + n : Nat) : Int) := by unfold wrap64; omega
theorem tok_step {s : ByteArray} {c : Nat} {p i : Int} {l r : List Tok} {c' : Nat} {p' i' : Int} {l' : List Tok} (g : tokOk s c p i l) (e : tokNx s c p i l = some (c', p', i', l')) (h : Ev (fun k => tokSt k s c' p' i' l') r) : Ev (fun k => tokSt k s c p i l) r := by
  refine Ev.shift ?_
  simp only [tokSt, if_pos g, e]
  exact h
theorem tok_end {s : ByteArray} {c : Nat} {p i : Int} {l : List Tok} (g : tokOk s c p i l) (e : tokNx s c p i l = none) : Ev (fun k => tokSt k s c p i l) l := by
  refine Ev.shift ?_
  simp only [tokSt, if_pos g, e]
  exact Ev.now _
section
variable {s : ByteArray} {l r : List Tok}
theorem ok_of {c p i : Nat} (hs : s.size ≤ 1000) (hl : l.length ≤ 1000) (hc : c < 4) (h1 : p ≤ i) (h2 : i ≤ s.size) (h3 : c = 3 → p < s.size) : tokOk s c (p : Int) (i : Int) l := ⟨hc, by omega, by omega, by omega, fun h => by have := h3 h; omega, hs, by omega⟩
/-- A run of the machine: through the run's bytes to its end. -/
theorem tok_run (P : Int → Bool) (c p : Nat) (hs : s.size ≤ 1000) (hl : l.length ≤ 1000) (hc : c < 4) (hp : c = 3 → p < s.size)
    (hn : ∀ i : Nat, i < s.size → P (bt s i) = true → tokNx s c p i l = some (c, (p : Int), (i : Int) + 1, l)) (j : Nat) (hj : j ≤ s.size) (h : Ev (fun k => tokSt k s c p j l) r) :
    ∀ (d i : Nat), j - i = d → p ≤ i → i ≤ j → (∀ m : Nat, i ≤ m → m < j → P (bt s m) = true) → Ev (fun k => tokSt k s c p i l) r
  | 0, i, hd, h0, hi, _ => by
    obtain rfl : i = j := by omega
    exact h
  | d + 1, i, hd, h0, hi, hm => by
    refine tok_step (ok_of hs hl hc h0 (by omega) hp) (hn i (by omega) (hm i (Nat.le_refl _) (by omega))) ?_
    exact tok_run P c p hs hl hc hp hn j hj h d (i + 1) (by omega) (by omega) (by omega) (fun m h1 h2 => hm m (by omega) h2)
/-- The reference's run. -/
theorem specRun (b : Bool) (P : Int → Bool) (hP : ∀ x : Int, P x = if b = true then decide (48 ≤ x ∧ x ≤ 57) else wb x) (hs : s.size ≤ 1000) (i j : Nat) (hj : j ≤ s.size) (he : j = s.size ∨ (j < s.size ∧ P (bt s j) = false)) :
    ∀ (d n : Nat), j - (i + n) = d → i + n ≤ j → (∀ m : Nat, i + n ≤ m → m < j → P (bt s m) = true) → Ev (fun k => spec_l2Run.l0 k s i b n) ((j - i : Nat) : Int) := by
  intro d
  induction d with
  | zero =>
    intro n hd hn _
    obtain rfl : j = i + n := by omega
    refine Ev.shift ?_
    rw [show ((i + n - i : Nat) : Int) = (n : Int) by omega]
    simp only [spec_l2Run.l0, wrap_nn i n (by omega)]
    rcases he with he | ⟨hlt, hf⟩
    · simp only [if_neg (show ¬ ((i + n : Nat) : Int) < (s.size : Int) by omega)]
      exact Ev.now _
    · simp only [if_pos (show ((i + n : Nat) : Int) < (s.size : Int) by omega), if_pos (show 0 ≤ ((i + n : Nat) : Int) by omega)]
      rw [hP] at hf
      cases b with
      | true =>
        rw [if_pos rfl] at hf
        have hf := of_decide_eq_false hf
        simp only [if_true]
        by_cases c1 : bt s ((i + n : Nat) : Int) < 48
        · simp only [if_pos c1]; exact Ev.now _
        · simp only [if_neg c1, if_pos (show bt s ((i + n : Nat) : Int) > 57 by omega)]; exact Ev.now _
      | false =>
        rw [if_neg (by decide)] at hf
        simp only [Bool.false_eq_true, if_false, specWord_wb, Option.bind_some, hf]
        exact Ev.now _
  | succ d ih =>
    intro n hd hn hm
    refine Ev.shift ?_
    have hb := hm (i + n) (Nat.le_refl _) (by omega)
    have hr := ih (n + 1) (by omega) (by omega) (fun m h1 h2 => hm m (by omega) h2)
    simp only [spec_l2Run.l0, wrap_nn i n (by omega), if_pos (show ((i + n : Nat) : Int) < (s.size : Int) by omega), if_pos (show 0 ≤ ((i + n : Nat) : Int) by omega), wrap_nat n (by omega)]
    rw [hP] at hb
    cases b with
    | true =>
      rw [if_pos rfl] at hb
      have hb := of_decide_eq_true hb
      simp only [if_true, if_neg (show ¬ bt s ((i + n : Nat) : Int) < 48 by omega), if_neg (show ¬ bt s ((i + n : Nat) : Int) > 57 by omega)]
      exact hr
    | false =>
      rw [if_neg (by decide)] at hb
      simp only [Bool.false_eq_true, if_false, specWord_wb, Option.bind_some, hb, if_true]
      exact hr
end
theorem bt_extract (s : ByteArray) (i j : Nat) (hij : i < j) (hj : j ≤ s.size) : bt (s.extract i j) 0 = bt s i := by
  unfold bt
  rw [dif_pos (by rw [ByteArray.size_extract]; simp; omega), dif_pos (by simp; omega)]
  congr 1
  simp [ByteArray.getElem_extract]
/-- The class of a word, of a number. -/
theorem classWord (t : ByteArray) (h0 : 0 < t.size) (hb : 97 ≤ bt t 0) : Ev (fun k => spec_l2Class.f k t) (if resB t.data.toList = true then 2 else if gnB t = true then 1 else 0) := by
  unfold spec_l2Class.f
  simp only [if_pos (show 0 < (t.size : Int) by omega), if_pos (show bt t 0 ≥ 48 by omega)]
  rw [decide_eq_false (show ¬ bt t 0 ≤ 57 by omega)]
  refine Ev.shift ?_
  simp only [spec_l2Class.j0, Bool.false_eq_true, if_false, specReserved, Option.bind_some]
  cases resB t.data.toList
  · simp only [Bool.false_eq_true, if_false]
    refine Ev.bind (specGood t) ?_
    cases gnB t
    · simp only [Bool.false_eq_true, if_false]; exact Ev.now _
    · simp only [if_true]; exact Ev.now _
  · simp only [if_true]; exact Ev.now _
theorem classNum (t : ByteArray) (h0 : 0 < t.size) (hb : 48 ≤ bt t 0 ∧ bt t 0 ≤ 57) : Ev (fun k => spec_l2Class.f k t) (if (t.size : Int) > 9 ∨ (bt t 0 = 48 ∧ (t.size : Int) > 1) then 0 else 3) := by
  unfold spec_l2Class.f
  simp only [if_pos (show 0 < (t.size : Int) by omega), if_pos (show bt t 0 ≥ 48 by omega)]
  rw [decide_eq_true (show bt t 0 ≤ 57 by omega)]
  refine Ev.shift ?_
  simp only [spec_l2Class.j0, if_true]
  by_cases c1 : (t.size : Int) > 9
  · simp only [if_pos c1, if_pos (Or.inl c1)]; exact Ev.now _
  · simp only [if_neg c1, if_pos (show 0 < (t.size : Int) by omega)]
    by_cases c2 : bt t 0 = 48
    · simp only [if_pos c2]
      by_cases c3 : (t.size : Int) > 1
      · simp only [if_pos c3]; rw [if_pos (Or.inr ⟨c2, c3⟩)]; exact Ev.now _
      · simp only [if_neg c3]; rw [if_neg (fun h => h.elim c1 (fun h => c3 h.2))]; exact Ev.now _
    · simp only [if_neg c2]; rw [if_neg (fun h => h.elim c1 (fun h => c2 h.1))]; exact Ev.now _
/-- The single signs. -/
def sgB (b : Int) : Bool := decide (0 ≤ Lib.indexByte [59, 58, 61, 63, 123, 125, 40, 41, 44, 46, 43, 60] b.toNat.toUInt8)
theorem specSign (b : Int) (h : 0 ≤ b ∧ b ≤ 255) : Ev (fun k => spec_l2Sign.f k b) (sgB b) := by
  obtain ⟨n, rfl⟩ : ∃ n : Nat, b = n := ⟨b.toNat, by omega⟩
  have hn : n < 256 := by omega
  clear h
  have h13 : spec_l2Sign.f 13 (n : Int) = some (sgB (n : Int)) := (by decide +kernel : ∀ n : Fin 256, spec_l2Sign.f 13 ((n.val : Nat) : Int) = some (sgB ((n.val : Nat) : Int))) ⟨n, hn⟩
  refine ⟨13, fun k hk => ?_⟩
  induction k with
  | zero => omega
  | succ k ih =>
    rcases Nat.eq_or_lt_of_le hk with h | h
    · rw [← h]; exact h13
    · exact spec_l2Sign.mono _ k _ (ih (by omega))
end Go.Proofs.YtiicaoiijhodkaaDoor.Gp
end
section
namespace Go.Proofs.YtiicaoiijhodkaaDoor.Gp
open Go.RowKit Go.Proofs.YtiicaoiijhodkaaDoorW.PrintWords
theorem pre_ext (s : ByteArray) (i : Nat) (h : i + 2 ≤ s.size) : (s.extract i s.size).extract 0 2 = s.extract i (i + 2) := by
  apply ByteArray.ext
  simp only [ByteArray.data_extract, Array.extract_extract]
  congr 1
  omega
/-- The sign of two bytes: both tests say the same. -/
theorem prefix_eq (s : ByteArray) (i : Nat) (hi : i ≤ s.size) : strings_HasPrefix.f (s.extract i s.size) ⟨#[45, 62]⟩ = some (if i + 2 ≤ s.size then (s.extract i (i + 2)).toList == ([45, 62] : List UInt8) else false) := by
  unfold strings_HasPrefix.f stringslite_HasPrefix.f
  have e2 : ((⟨#[45, 62]⟩ : ByteArray).size : Int) = 2 := rfl
  have e3 : ((s.extract i s.size).size : Int) = (s.size : Int) - i := by rw [ByteArray.size_extract]; omega
  rw [e2, e3]
  by_cases h : i + 2 ≤ s.size
  · rw [if_pos (by omega), if_pos (by omega), if_pos (by omega), if_pos h]
    have e4 : (s.extract i s.size).extract 0 ((2 : Int)).toNat = s.extract i (i + 2) := pre_ext s i h
    rw [e4, show ({ data := #[45, 62] } : ByteArray).toList = ([45, 62] : List UInt8) from Lib.toList_data _]
    rfl
  · rw [if_neg (by omega), if_neg h]
    rfl
abbrev spL (s : ByteArray) (l : List Tok) (i : Nat) (T : List Tok) : Prop := Ev (fun k => spec_Tokens.l0 k s l (i : Int)) T
section
variable {s : ByteArray} {l T : List Tok} {i : Nat}
theorem sp_j1 (hlt : i < s.size) (b : Bool) (hb : b = decide (bt s i = 32 ∨ bt s i = 10)) (h : Ev (fun k => spec_Tokens.j1 k s l i (bt s i) 1 0 b) T) : spL s l i T := by
  refine Ev.shift ?_
  simp only [spec_Tokens.l0, if_pos (show (i : Int) < (s.size : Int) by omega), if_pos (show (0 : Int) ≤ (i : Int) by omega)]
  by_cases c : bt s i = 32
  · simp only [if_pos c]
    rw [hb, decide_eq_true (Or.inl c)] at h
    exact h
  · simp only [if_neg c]
    rw [show (bt s i == 10) = b by rw [hb]; by_cases c2 : bt s i = 10 <;> simp [c, c2]]
    exact h
theorem sp_emit {g : Nat → Option (List Tok)} (cl : Int) (j : Nat) (hcl : 0 ≤ cl) (hij : i ≤ j) (hj : j ≤ s.size) (hs : s.size ≤ 1000) (hl : l.length ≤ i)
    (hg : ∀ k, g k = if cl ≥ 0 then (if 0 ≤ (i : Int) then (if (i : Int) ≤ (j : Int) then (if (j : Int) ≤ (s.size : Int) then (if l.length < 4398046511104 then (spec_Tokens.l0 k s (l ++ [(⟨cl, s.extract (i : Int).toNat ((j : Int)).toNat, (i : Int)⟩ : Tok)]) (j : Int)) else none) else none) else none) else none) else (spec_Tokens.l0 k s l (j : Int)))
    (h : spL s (l ++ [⟨cl, s.extract i j, (i : Int)⟩]) j T) : Ev g T := by
  refine Ev.congr (f := fun k => spec_Tokens.l0 k s (l ++ [(⟨cl, s.extract i j, (i : Int)⟩ : Tok)]) (j : Int)) (fun k => ?_) h
  rw [hg, if_pos hcl, if_pos (by omega), if_pos (by omega), if_pos (by omega), if_pos (by omega)]
  simp only [Int.toNat_natCast]
/-- The comment's loop. -/
theorem sp_comment (hs : s.size ≤ 1000) (j : Nat) (hij : i < j) (hj : j ≤ s.size) (he : j = s.size ∨ (j < s.size ∧ bt s j = 10)) (h : spL s l j T) :
    ∀ (d n : Nat), j - (i + n) = d → i + n ≤ j → (∀ m : Nat, i + n ≤ m → m < j → bt s m ≠ 10) → Ev (fun k => spec_Tokens.l1 k s l i n (-1)) T := by
  intro d
  induction d with
  | zero =>
    intro n hd hn _
    have ej : i + n = j := by omega
    refine Ev.shift ?_
    simp only [spec_Tokens.l1, wrap_nn i n (by omega), ej, if_neg (show ¬ (-1 : Int) ≥ 0 by omega)]
    rcases he with he | ⟨hlt, hf⟩
    · simp only [if_neg (show ¬ (j : Int) < (s.size : Int) by omega)]
      exact h
    · simp only [if_pos (show (j : Int) < (s.size : Int) by omega), if_pos (show 0 ≤ (j : Int) by omega), if_pos hf]
      exact h
  | succ d ih =>
    intro n hd hn hm
    refine Ev.shift ?_
    have hb := hm (i + n) (Nat.le_refl _) (by omega)
    have hr := ih (n + 1) (by omega) (by omega) (fun m h1 h2 => hm m (by omega) h2)
    simp only [spec_Tokens.l1, wrap_nn i n (by omega), if_pos (show ((i + n : Nat) : Int) < (s.size : Int) by omega), if_pos (show 0 ≤ ((i + n : Nat) : Int) by omega), if_neg hb, wrap_nat n (by omega)]
    exact hr
end
theorem tok_main (s : ByteArray) (hs : s.size ≤ 1000) : ∀ (d i : Nat) (l : List Tok) (p : Nat), s.size - i = d → i ≤ s.size → p ≤ i → l.length ≤ i → ∃ T, T.length ≤ 1000 ∧ spL s l i T ∧ Ev (fun k => tokSt k s 0 p i l) T := by
  intro d
  induction d using Nat.strongRecOn with
  | _ d ih =>
  intro i l p hd hi hp hl
  have ok0 : tokOk s 0 (p : Int) (i : Int) l := ok_of hs (by omega) (by omega) hp hi (by omega)
  rcases Nat.eq_or_lt_of_le hi with he | hlt
  · refine ⟨l, by omega, Ev.shift ?_, tok_end ok0 ?_⟩
    · simp only [spec_Tokens.l0, if_neg (show ¬ (i : Int) < (s.size : Int) by omega)]
      exact Ev.now _
    · unfold tokNx
      rw [if_pos rfl, if_pos (by omega)]
  have nxt : ∀ (j : Nat) (l' : List Tok) (p' : Nat), i < j → j ≤ s.size → p' ≤ j → l'.length ≤ j → ∃ T, T.length ≤ 1000 ∧ spL s l' j T ∧ Ev (fun k => tokSt k s 0 p' j l') T := fun j l' p' h1 h2 h3 h4 => ih (s.size - j) (by omega) j l' p' rfl h2 h3 h4
  have c1 : ¬ (i : Int) = (s.size : Int) := by omega
  by_cases c2 : bt s i = 32 ∨ bt s i = 10
  · obtain ⟨T, hT, hS, hI⟩ := nxt (i + 1) l i (by omega) (by omega) (by omega) (by omega)
    refine ⟨T, hT, sp_j1 hlt true (decide_eq_true c2).symm (Ev.shift ?_), tok_step ok0 (show _ = some (0, (i : Int), (i : Int) + 1, l) by unfold tokNx; rw [if_pos rfl, if_neg c1, if_pos c2]) hI⟩
    simp only [spec_Tokens.j1, if_true, if_neg (show ¬ (-1 : Int) ≥ 0 by omega), wrap_nat i (by omega)]
    exact hS
  by_cases c4 : bt s i = 35
  · obtain ⟨j, h1, h2, h3, h4⟩ := run_ex s (fun b => b != 10) _ i rfl hi
    have hij : i < j := by
      rcases Nat.eq_or_lt_of_le h1 with h | h
      · rcases h4 with h4 | ⟨_, h4⟩
        · omega
        · rw [← h, c4] at h4; cases h4
      · exact h
    obtain ⟨T, hT, hS, hI⟩ := nxt j l i hij h2 (by omega) (by omega)
    have h3' : ∀ m : Nat, i ≤ m → m < j → bt s m ≠ 10 := fun m a b => by have := h3 m a b; simpa using this
    have h4' : j = s.size ∨ (j < s.size ∧ bt s j = 10) := h4.imp_right (fun h => ⟨h.1, by simpa using h.2⟩)
    refine ⟨T, hT, sp_j1 hlt false (decide_eq_false c2).symm (Ev.shift ?_), tok_step ok0 (show _ = some (1, (i : Int), (i : Int), l) by unfold tokNx; rw [if_pos rfl, if_neg c1, if_neg c2, if_pos c4]) ?_⟩
    · simp only [spec_Tokens.j1, Bool.false_eq_true, if_false, if_pos c4]
      exact sp_comment hs j hij h2 h4' hS _ 1 rfl (by omega) (fun m a b => h3' m (by omega) b)
    · refine tok_run (fun b => b != 10) 1 i hs (by omega) (by omega) (by omega) (fun m hm hb => ?_) j h2 ?_ _ i rfl (Nat.le_refl _) h1 (fun m a b => h3 m a b)
      · unfold tokNx
        rw [if_neg (by decide), if_pos rfl, if_neg (fun h => h.elim (fun h => by omega) (fun h => by rw [h] at hb; cases hb))]
      · refine tok_step (ok_of hs (by omega) (by omega) h1 h2 (by omega)) ?_ hI
        unfold tokNx
        rw [if_neg (by decide), if_pos rfl, if_pos (h4'.imp (fun h => by omega) (fun h => h.2))]
  by_cases c5 : 97 ≤ bt s i ∧ bt s i ≤ 122
  · obtain ⟨j, h1, h2, h3, h4⟩ := run_ex s wb _ i rfl hi
    have hij : i < j := by
      rcases Nat.eq_or_lt_of_le h1 with h | h
      · rcases h4 with h4 | ⟨_, h4⟩
        · omega
        · exfalso
          rw [← h] at h4
          unfold wb at h4
          simp [c5.1, c5.2] at h4
      · exact h
    have hb0 := bt_extract s i j hij h2
    have hsz : (s.extract i j).size = j - i := by rw [ByteArray.size_extract]; omega
    have hcl := classWord (s.extract i j) (by omega) (by rw [hb0]; exact c5.1)
    obtain ⟨cl, hcv⟩ : ∃ cl : Int, cl = if resB (s.extract i j).data.toList = true then 2 else if gnB (s.extract i j) = true then 1 else 0 := ⟨_, rfl⟩
    rw [← hcv] at hcl
    have hc0 : 0 ≤ cl := by rw [hcv]; split <;> (try split) <;> omega
    obtain ⟨T, hT, hS, hI⟩ := nxt j (l ++ [⟨cl, s.extract i j, (i : Int)⟩]) i hij h2 (by omega) (by simp; omega)
    refine ⟨T, hT, sp_j1 hlt false (decide_eq_false c2).symm (Ev.shift ?_), tok_step ok0 (show _ = some (2, (i : Int), (i : Int), l) by unfold tokNx; rw [if_pos rfl, if_neg c1, if_neg c2, if_neg c4, if_pos c5]) ?_⟩
    · simp only [spec_Tokens.j1, Bool.false_eq_true, if_false, if_neg c4, if_pos (show bt s i ≥ 97 from c5.1)]
      rw [decide_eq_true c5.2]
      refine Ev.shift ?_
      simp only [spec_Tokens.j3, if_true]
      refine Ev.bind (specRun false wb (fun x => by simp) hs i j h2 h4 _ 0 rfl (by omega) (fun m a b => h3 m (by omega) b)) ?_
      simp only [wrap_nn i (j - i) (by omega), show i + (j - i) = j by omega, if_pos (show (0 : Int) ≤ (i : Int) by omega), if_pos (show (i : Int) ≤ (j : Int) by omega), if_pos (show (j : Int) ≤ (s.size : Int) by omega), Int.toNat_natCast]
      refine Ev.bind hcl ?_
      simp only [if_pos (show cl ≥ 0 from hc0), if_pos (show l.length < 4398046511104 by omega)]
      exact hS
    · refine tok_run wb 2 i hs (by omega) (by omega) (by omega) (fun m hm hb => ?_) j h2 ?_ _ i rfl (Nat.le_refl _) h1 h3
      · unfold tokNx
        rw [if_neg (by decide), if_neg (by decide), if_pos rfl, if_pos ⟨by omega, hb⟩]
      · refine tok_step (ok_of hs (by omega) (by omega) h1 h2 (by omega)) ?_ hI
        unfold tokNx
        rw [if_neg (by decide), if_neg (by decide), if_pos rfl, if_neg (fun h => h4.elim (fun e => by have := h.1; omega) (fun e => by rw [e.2] at h; cases h.2))]
        simp only [Int.toNat_natCast]
        rw [← hcv]
  by_cases c6 : 48 ≤ bt s i ∧ bt s i ≤ 57
  · obtain ⟨j, h1, h2, h3, h4⟩ := run_ex s (fun b => decide (48 ≤ b ∧ b ≤ 57)) _ i rfl hi
    have hij : i < j := by
      rcases Nat.eq_or_lt_of_le h1 with h | h
      · rcases h4 with h4 | ⟨_, h4⟩
        · omega
        · exfalso
          rw [← h] at h4
          exact of_decide_eq_false h4 c6
      · exact h
    have hb0 := bt_extract s i j hij h2
    have hsz : (s.extract i j).size = j - i := by rw [ByteArray.size_extract]; omega
    have hcl := classNum (s.extract i j) (by omega) (by rw [hb0]; exact c6)
    rw [hb0, show ((s.extract i j).size : Int) = (j : Int) - i by omega] at hcl
    obtain ⟨cl, hcv⟩ : ∃ cl : Int, cl = if (j : Int) - i > 9 ∨ (bt s i = 48 ∧ (j : Int) - i > 1) then 0 else 3 := ⟨_, rfl⟩
    rw [← hcv] at hcl
    have hc0 : 0 ≤ cl := by rw [hcv]; split <;> omega
    obtain ⟨T, hT, hS, hI⟩ := nxt j (l ++ [⟨cl, s.extract i j, (i : Int)⟩]) i hij h2 (by omega) (by simp; omega)
    refine ⟨T, hT, sp_j1 hlt false (decide_eq_false c2).symm (Ev.shift ?_), tok_step ok0 (show _ = some (3, (i : Int), (i : Int), l) by unfold tokNx; rw [if_pos rfl, if_neg c1, if_neg c2, if_neg c4, if_neg c5, if_pos c6]) ?_⟩
    · simp only [spec_Tokens.j1, Bool.false_eq_true, if_false, if_neg c4, if_neg (show ¬ bt s i ≥ 97 by omega)]
      refine Ev.shift ?_
      simp only [spec_Tokens.j3, Bool.false_eq_true, if_false, if_pos (show bt s i ≥ 48 from c6.1)]
      rw [decide_eq_true c6.2]
      refine Ev.shift ?_
      simp only [spec_Tokens.j4, if_true]
      refine Ev.bind (specRun true (fun b => decide (48 ≤ b ∧ b ≤ 57)) (fun x => by simp) hs i j h2 h4 _ 0 rfl (by omega) (fun m a b => h3 m (by omega) b)) ?_
      simp only [wrap_nn i (j - i) (by omega), show i + (j - i) = j by omega, if_pos (show (0 : Int) ≤ (i : Int) by omega), if_pos (show (i : Int) ≤ (j : Int) by omega), if_pos (show (j : Int) ≤ (s.size : Int) by omega), Int.toNat_natCast]
      refine Ev.bind hcl ?_
      simp only [if_pos (show cl ≥ 0 from hc0), if_pos (show l.length < 4398046511104 by omega)]
      exact hS
    · refine tok_run (fun b => decide (48 ≤ b ∧ b ≤ 57)) 3 i hs (by omega) (by omega) (fun _ => hlt) (fun m hm hb => ?_) j h2 ?_ _ i rfl (Nat.le_refl _) h1 h3
      · unfold tokNx
        rw [if_neg (by decide), if_neg (by decide), if_neg (by decide), if_pos ⟨by omega, of_decide_eq_true hb⟩]
      · refine tok_step (ok_of hs (by omega) (by omega) h1 h2 (fun _ => hlt)) ?_ hI
        unfold tokNx
        rw [if_neg (by decide), if_neg (by decide), if_neg (by decide), if_neg (fun h => h4.elim (fun e => by have := h.1; omega) (fun e => of_decide_eq_false e.2 h.2))]
        simp only [Int.toNat_natCast]
        rw [← hcv]
  have hsp : ∀ T, Ev (fun k => spec_Tokens.j4 k s l i (bt s i) 1 0 false) T → spL s l i T := by
    intro T h
    refine sp_j1 hlt false (decide_eq_false c2).symm (Ev.shift ?_)
    simp only [spec_Tokens.j1, Bool.false_eq_true, if_false, if_neg c4]
    by_cases c7 : bt s i ≥ 97
    · simp only [if_pos c7]
      rw [decide_eq_false (show ¬ bt s i ≤ 122 by omega)]
      refine Ev.shift ?_
      simp only [spec_Tokens.j3, Bool.false_eq_true, if_false, if_pos (show bt s i ≥ 48 by omega)]
      rw [decide_eq_false (show ¬ bt s i ≤ 57 by omega)]
      exact h
    · simp only [if_neg c7]
      refine Ev.shift ?_
      simp only [spec_Tokens.j3, Bool.false_eq_true, if_false]
      by_cases c8 : bt s i ≥ 48
      · simp only [if_pos c8]
        rw [decide_eq_false (show ¬ bt s i ≤ 57 by omega)]
        exact h
      · simp only [if_neg c8]
        exact h
  have w1 := wrap_nn i 1 (by omega)
  have w2 := wrap_nn i 2 (by omega)
  have hj5 : ∀ T, Ev (fun k => spec_Tokens.j5 k s l i (bt s i) 1 0 (if i + 2 ≤ s.size then (s.extract i (i + 2)).toList == ([45, 62] : List UInt8) else false)) T → spL s l i T := by
    intro T h
    refine hsp T (Ev.shift ?_)
    simp only [spec_Tokens.j4, Bool.false_eq_true, if_false]
    by_cases c9 : i + 2 ≤ s.size
    · rw [if_pos c9] at h
      simp only [show wrap64 ((i : Int) + 1) = ((i + 1 : Nat) : Int) from w1, show wrap64 ((i : Int) + 2) = ((i + 2 : Nat) : Int) from w2, if_pos (show ((i + 1 : Nat) : Int) < (s.size : Int) by omega), if_pos (show (0 : Int) ≤ (i : Int) by omega), if_pos (show (i : Int) ≤ ((i + 2 : Nat) : Int) by omega), if_pos (show ((i + 2 : Nat) : Int) ≤ (s.size : Int) by omega), Int.toNat_natCast]
      exact h
    · rw [if_neg c9] at h
      simp only [show wrap64 ((i : Int) + 1) = ((i + 1 : Nat) : Int) from w1, if_neg (show ¬ ((i + 1 : Nat) : Int) < (s.size : Int) by omega)]
      exact h
  have hpe := prefix_eq s i hi
  obtain ⟨b, hb⟩ : ∃ b, b = (if i + 2 ≤ s.size then (s.extract i (i + 2)).toList == ([45, 62] : List UInt8) else false) := ⟨_, rfl⟩
  rw [← hb] at hj5 hpe
  have n6 : ∀ {x}, tokNx s 0 p i l = x ↔ (if strings_HasPrefix.f (s.extract i s.size) ⟨#[45, 62]⟩ = some true then some (0, (i : Int), (i : Int) + 2, l ++ [⟨4, s.extract i ((i : Int) + 2).toNat, (i : Int)⟩]) else if 0 ≤ Lib.indexByte [59, 58, 61, 63, 123, 125, 40, 41, 44, 46, 43, 60] (bt s i).toNat.toUInt8 then some (0, (i : Int), (i : Int) + 1, l ++ [⟨4, s.extract i ((i : Int) + 1).toNat, (i : Int)⟩]) else some (0, (i : Int), (i : Int) + 1, l ++ [⟨0, s.extract i ((i : Int) + 1).toNat, (i : Int)⟩])) = x := by
    intro x
    unfold tokNx
    rw [if_pos rfl, if_neg c1, if_neg c2, if_neg c4, if_neg c5, if_neg c6, Int.toNat_natCast]
  cases b with
  | true =>
    have c9 : i + 2 ≤ s.size := by
      by_cases c9 : i + 2 ≤ s.size
      · exact c9
      · rw [if_neg c9] at hb; cases hb
    obtain ⟨T, hT, hS, hI⟩ := nxt (i + 2) (l ++ [⟨4, s.extract i (i + 2), (i : Int)⟩]) i (by omega) c9 (by omega) (by simp; omega)
    refine ⟨T, hT, hj5 T (Ev.shift ?_), tok_step ok0 (n6.2 (if_pos hpe)) hI⟩
    simp only [spec_Tokens.j5, if_true, show wrap64 ((i : Int) + 2) = ((i + 2 : Nat) : Int) from w2]
    exact sp_emit 4 (i + 2) (by omega) (by omega) c9 hs hl (fun k => rfl) hS
  | false =>
    have hne : ¬ strings_HasPrefix.f (s.extract i s.size) ⟨#[45, 62]⟩ = some true := by rw [hpe]; simp
    have hsg := specSign (bt s i) (bt_range s i)
    cases hg : sgB (bt s i) with
    | true =>
      obtain ⟨T, hT, hS, hI⟩ := nxt (i + 1) (l ++ [⟨4, s.extract i (i + 1), (i : Int)⟩]) i (by omega) (by omega) (by omega) (by simp; omega)
      refine ⟨T, hT, hj5 T (Ev.shift ?_), tok_step ok0 (n6.2 ((if_neg hne).trans (if_pos (of_decide_eq_true hg)))) hI⟩
      simp only [spec_Tokens.j5, Bool.false_eq_true, if_false]
      rw [hg] at hsg
      refine Ev.bind hsg ?_
      simp only [if_true, show wrap64 ((i : Int) + 1) = ((i + 1 : Nat) : Int) from w1]
      exact sp_emit 4 (i + 1) (by omega) (by omega) (by omega) hs hl (fun k => rfl) hS
    | false =>
      obtain ⟨T, hT, hS, hI⟩ := nxt (i + 1) (l ++ [⟨0, s.extract i (i + 1), (i : Int)⟩]) i (by omega) (by omega) (by omega) (by simp; omega)
      refine ⟨T, hT, hj5 T (Ev.shift ?_), tok_step ok0 (n6.2 ((if_neg hne).trans (if_neg (of_decide_eq_false hg)))) hI⟩
      simp only [spec_Tokens.j5, Bool.false_eq_true, if_false]
      rw [hg] at hsg
      refine Ev.bind hsg ?_
      simp only [Bool.false_eq_true, if_false, show wrap64 ((i : Int) + 1) = ((i + 1 : Nat) : Int) from w1]
      exact sp_emit 0 (i + 1) (by omega) (by omega) (by omega) hs hl (fun k => rfl) hS
theorem tokens_ev (s : ByteArray) : ∃ T : List Tok, T.length ≤ 1000 ∧ Ev (fun k => spec_Tokens.f k s) T ∧ Ev (fun k => impl_Tokens.f k s) T := by
  by_cases c : (s.size : Int) > 1000
  · refine ⟨[], by simp, ?_, ?_⟩
    · unfold spec_Tokens.f
      simp only [Option.bind_some, if_pos c]
      exact Ev.now _
    · unfold impl_Tokens.f
      simp only [if_pos c]
      exact Ev.now _
  · obtain ⟨T, hT, hS, hI⟩ := tok_main s (by omega) _ 0 [] 0 rfl (by omega) (by omega) (by simp)
    refine ⟨T, hT, ?_, ?_⟩
    · unfold spec_Tokens.f
      simp only [Option.bind_some, if_neg c]
      exact hS
    · unfold impl_Tokens.f
      simp only [if_neg c]
      exact hI
theorem markText_ex : ∀ (n : Nat) (t : ByteArray), t.size + n ≤ 1000000 → ∃ r, Ev (fun k => laws_markText.l0 k (n : Int) t) r := by
  intro n
  induction n using Nat.strongRecOn with
  | _ n ih =>
  intro t ht
  by_cases c : n = 0
  · subst c
    refine ⟨(⟨#[109]⟩ : ByteArray) ++ t, Ev.shift ?_⟩
    simp only [laws_markText.l0, if_neg (show ¬ ((0 : Nat) : Int) > 0 by omega), if_pos (show 1 + t.size ≤ 9223372036854775807 by omega)]
    exact Ev.now _
  · have hdv : wrap64 (Int.tdiv (n : Int) 10) = ((n / 10 : Nat) : Int) := by
      rw [Int.tdiv_eq_ediv_of_nonneg (by omega)]
      unfold wrap64
      omega
    have hz : ∀ x : Int, (strOfNums [x]).size = 1 := fun x => rfl
    obtain ⟨r, hr⟩ := ih (n / 10) (by omega) (strOfNums [(wrap64 (48 + (Int.tmod (n : Int) 10))) % 256] ++ t) (by rw [ByteArray.size_append, hz]; omega)
    refine ⟨r, Ev.shift ?_⟩
    simp only [laws_markText.l0, if_pos (show (n : Int) > 0 by omega), Option.bind_some, hz, if_pos (show 1 + t.size ≤ 9223372036854775807 by omega), hdv]
    exact hr
theorem markText_all : ∃ mt : Nat → ByteArray, ∀ n : Nat, n ≤ 100000 → Ev (fun k => laws_markText.f k (n : Int)) (mt n) := by
  have h : ∀ n : Nat, ∃ r, n ≤ 100000 → Ev (fun k => laws_markText.f k (n : Int)) r := fun n => by
    by_cases hn : n ≤ 100000
    · unfold laws_markText.f
      by_cases c : (n : Int) ≤ 0
      · exact ⟨_, fun _ => by simp only [if_pos c]; exact Ev.now _⟩
      · obtain ⟨r, hr⟩ := markText_ex n ⟨#[]⟩ (by simp [ByteArray.size]; omega)
        exact ⟨r, fun _ => by simp only [if_neg c]; exact hr⟩
    · exact ⟨⟨#[]⟩, fun h => absurd h hn⟩
  exact Classical.axiomOfChoice h
/-- A row of marked tokens. -/
def mkTok (mt : Nat → ByteArray) : Nat → Nat → List Tok
  | 0, _ => []
  | n + 1, m => ⟨(m : Int), mt (m + 1), ((m + 2 : Nat) : Int)⟩ :: mkTok mt n (m + 3)
theorem set_pre {α : Type} (pre : List α) (x y : α) (rest : List α) : (pre ++ x :: rest).set pre.length y = pre ++ y :: rest := by simp
theorem rd_pre (pre : List Tok) (x : Tok) (rest : List Tok) : rd_T75 (pre ++ x :: rest) (pre.length : Int) = x := by
  unfold rd_T75
  rw [Int.toNat_natCast, List.getD_eq_getElem?_getD]
  simp
theorem wrap1 (m : Nat) (h : m ≤ 1000000) : wrap64 ((m : Int) + 1) = ((m + 1 : Nat) : Int) := by unfold wrap64; omega
theorem markTokens_ev (mt : Nat → ByteArray) (hmt : ∀ n : Nat, n ≤ 100000 → Ev (fun k => laws_markText.f k (n : Int)) (mt n)) :
    ∀ (rest pre : List Tok) (m : Nat), pre.length + rest.length ≤ 1000 → m + 3 * rest.length ≤ 50000 → Ev (fun k => laws_markTokenS.l0 k (pre ++ rest) (m : Int) (pre.length : Int)) (((m + 3 * rest.length : Nat) : Int), pre ++ mkTok mt rest.length m)
  | [], pre, m, _, _ => by
    refine Ev.shift ?_
    simp only [laws_markTokenS.l0, List.append_nil, if_neg (show ¬ (pre.length : Int) < (pre.length : Int) by omega)]
    simpa [mkTok] using Ev.now ((m : Int), pre)
  | x :: rest, pre, m, hl, hm => by
    simp only [List.length_cons] at hl hm
    have ih := markTokens_ev mt hmt rest (pre ++ [⟨(m : Int), mt (m + 1), ((m + 2 : Nat) : Int)⟩]) (m + 3) (by simp; omega) (by omega)
    refine Ev.shift ?_
    simp only [laws_markTokenS.l0, if_pos (show (pre.length : Int) < ((pre ++ x :: rest).length : Int) by simp; omega), if_pos (show (0 : Int) ≤ (pre.length : Int) by omega), Option.bind_some, Int.toNat_natCast, set_pre, rd_pre, wrap1 m (by omega)]
    refine Ev.bind (hmt (m + 1) (by omega)) ?_
    simp only [wrap1 (m + 1) (by omega), wrap1 (m + 1 + 1) (by omega), wrap1 pre.length (by omega)]
    simp only [List.append_assoc, List.singleton_append, List.length_append, List.length_singleton] at ih
    rw [show m + 3 * (x :: rest).length = m + 3 + 3 * rest.length by simp only [List.length_cons]; omega]
    exact ih
theorem heldTokens_ev (mt : Nat → ByteArray) (hmt : ∀ n : Nat, n ≤ 100000 → Ev (fun k => laws_markText.f k (n : Int)) (mt n)) :
    ∀ (n : Nat) (pre : List Tok) (m : Nat), pre.length + n ≤ 1000 → m + 3 * n ≤ 50000 → Ev (fun k => laws_heldTokenS.l0 k (pre ++ mkTok mt n m) (m : Int) (pre.length : Int)) ((m + 3 * n : Nat) : Int)
  | 0, pre, m, _, _ => by
    refine Ev.shift ?_
    simp only [laws_heldTokenS.l0, mkTok, List.append_nil, if_neg (show ¬ (pre.length : Int) < (pre.length : Int) by omega)]
    exact Ev.now _
  | n + 1, pre, m, hl, hm => by
    have ih := heldTokens_ev mt hmt n (pre ++ [⟨(m : Int), mt (m + 1), ((m + 2 : Nat) : Int)⟩]) (m + 3) (by simp; omega) (by omega)
    refine Ev.shift ?_
    simp only [mkTok]
    simp only [laws_heldTokenS.l0, if_pos (show (pre.length : Int) < ((pre ++ (⟨(m : Int), mt (m + 1), ((m + 2 : Nat) : Int)⟩ : Tok) :: mkTok mt n (m + 3)).length : Int) by simp; omega), if_pos (show (0 : Int) ≤ (pre.length : Int) by omega), rd_pre, if_true, wrap1 m (by omega)]
    refine Ev.bind (hmt (m + 1) (by omega)) ?_
    simp only [if_true, wrap1 (m + 1) (by omega), wrap1 (m + 1 + 1) (by omega), wrap1 pre.length (by omega)]
    simp only [List.append_assoc, List.singleton_append, List.length_append, List.length_singleton] at ih
    rw [show m + 3 * (n + 1) = m + 3 + 3 * n by omega]
    exact ih
theorem eqTokens_ev (l : List Tok) (hl : l.length ≤ 1000) : Ev (fun k => laws_eqTokenS.f k l l) true := by
  unfold laws_eqTokenS.f
  simp only [if_true]
  exact eq_loop z75 (fun k x y => laws_eqToken.f x.f0 x.f1 x.f2 y.f0 y.f1 y.f2) laws_eqTokenS.l0 (fun _ _ _ _ => rfl) l (fun x hx => by unfold laws_eqToken.f; simp only [if_true]; exact Ev.now _) (by omega)
/-- The law's plain function answers true. -/
theorem tokens_true (s : ByteArray) (_ : s.size ≤ maxLen) : Ev (fun k => laws_FnExactTokens.f k s) true := by
  unfold laws_FnExactTokens.f
  by_cases c : (s.size : Int) > 1048576
  · simp only [if_pos c]
    exact Ev.now _
  simp only [if_neg c]
  obtain ⟨T, hT, hS, hI⟩ := tokens_ev s
  obtain ⟨mt, hmt⟩ := markText_all
  have hM := markTokens_ev mt hmt T [] 1 (by simpa using hT) (by omega)
  have hH := heldTokens_ev mt hmt T.length [] 1 (by simpa using hT) (by omega)
  simp only [List.nil_append, List.length_nil] at hM hH
  refine Ev.bind hS (Ev.bind hI (Ev.bind (eqTokens_ev T hT) ?_))
  simp only [if_true]
  refine Ev.bind (show Ev (fun k => laws_markTokenS.f k T 1) _ from hM) ?_
  refine Ev.bind (show Ev (fun k => laws_heldTokenS.f k (mkTok mt T.length 1) 1) _ from hH) ?_
  simp only [if_neg (show ¬ ((1 + 3 * T.length : Nat) : Int) < 0 by omega), if_true]
  refine Ev.bind hI (Ev.bind (eqTokens_ev T hT) ?_)
  simp only [if_true]
  refine Ev.bind (show Ev (fun k => laws_heldTokenS.f k (mkTok mt T.length 1) 1) _ from hH) ?_
  simp only [if_neg (show ¬ ((1 + 3 * T.length : Nat) : Int) < 0 by omega), if_true]
  exact Ev.now _
end Go.Proofs.YtiicaoiijhodkaaDoor.Gp
end
