/- A part of the proof of RowFnExactClaim: each text's theorems that it needs, packed by shake.py, a program of this work; Lean checks them. -/
import Derived.Test.YtnbohlcibgfjaaaDoorClm0
import Derived.Lib.Strings
section
namespace Go.Proofs.YtnbohlcibgfjaaaDoor.Gp
open Go.RowKit Go.Proofs.YtnbohlcibgfjaaaDoorW.PrintWords
theorem data_inj0 {s t : ByteArray} (h : s.data.toList = t.data.toList) : s = t := by
 cases s with
 | mk a => cases t with
  | mk b => simp only at h; rw [Array.toList_inj.1 h]
theorem Ev.shift {α : Type} {g : Nat → Option α} {r : α} (h : Ev (fun k => g (k + 1)) r) : Ev g r := by
 obtain ⟨K, h⟩ := h
 refine ⟨K + 1, fun n hn => ?_⟩
 obtain ⟨m, rfl⟩ : ∃ m, n = m + 1 := ⟨n - 1, by omega⟩
 exact h m (by omega)
theorem Ev.const {α : Type} {o : Option α} {r : α} (h : o = some r) : Ev (fun _ => o) r := ⟨0, fun _ _ => h⟩
theorem wrap_nat (i : Nat) (h : i < 9223372036854775807) : wrap64 ((i : Int) + 1) = ((i + 1 : Nat) : Int) := by unfold wrap64; omega
theorem ev_loop {σ ρ : Type} (L : Nat → σ → Nat → Option ρ) (n : Nat) (Inv : Nat → σ → Prop) (Post : ρ → Prop)
 (step : ∀ i s, i < n → Inv i s → (∃ r, Post r ∧ Ev (fun k => L k s i) r) ∨ ∃ s', Inv (i + 1) s' ∧ ∀ r, Ev (fun k => L k s' (i + 1)) r → Ev (fun k => L k s i) r)
 (fin : ∀ s, Inv n s → ∃ r, Post r ∧ Ev (fun k => L k s n) r) : ∀ (i : Nat) (s : σ), i ≤ n → Inv i s → ∃ r, Post r ∧ Ev (fun k => L k s i) r := by
 have key : ∀ (d i : Nat) (s : σ), n - i = d → i ≤ n → Inv i s → ∃ r, Post r ∧ Ev (fun k => L k s i) r := by
  intro d
  induction d with
  | zero =>
   intro i s hd hi h
   obtain rfl : i = n := by omega
   exact fin s h
  | succ d ih =>
   intro i s hd hi h
   rcases step i s (by omega) h with h' | ⟨s', hs, hr⟩
   · exact h'
   obtain ⟨r, hp, he⟩ := ih (i + 1) s' (by omega) (by omega) hs
   exact ⟨r, hp, hr r he⟩
 exact fun i s => key (n - i) i s rfl
/-- An inner loop that asks something at each place: where all is well it goes on with what follows, else the answer is 'bad'. -/
theorem cont_loop {ρ : Type} (L : Nat → Nat → Option ρ) (n : Nat) (ok : Nat → Bool) (bad : ρ) (Cont : Nat → Option ρ)
 (hok : ∀ i, i < n → ok i = true → ∀ r, Ev (fun k => L k (i + 1)) r → Ev (fun k => L k i) r) (hbad : ∀ i, i < n → ok i = false → Ev (fun k => L k i) bad) (fin : ∀ r, Ev Cont r → Ev (fun k => L k n) r) (r : ρ)
 (h1 : (∀ i, i < n → ok i = true) → Ev Cont r) (h2 : (∃ i, i < n ∧ ok i = false) → r = bad) : Ev (fun k => L k 0) r := by
 have key : ∀ (d i : Nat), n - i = d → i ≤ n → (∀ j, j < i → ok j = true) → Ev (fun k => L k i) r := by
  intro d
  induction d with
  | zero =>
   intro i hd hi hj
   obtain rfl : i = n := by omega
   exact fin r (h1 hj)
  | succ d ih =>
   intro i hd hi hj
   cases ho : ok i with
   | false =>
    rw [h2 ⟨i, by omega, ho⟩]
    exact hbad i (by omega) ho
   | true =>
    refine hok i (by omega) ho r (ih (i + 1) (by omega) (by omega) (fun j hj' => ?_))
    rcases Nat.lt_succ_iff_lt_or_eq.1 hj' with h | rfl
    · exact hj j h
    exact ho
 exact key n 0 (by omega) (Nat.zero_le _) (fun j hj => by omega)
theorem sz_loop {α : Type} (z : α) (E : Nat → α → Int → Option Int) (L : Nat → List α → Int → Int → Option Int) (B : Int)
 (hL : ∀ k xs left i, L (k + 1) xs left i = if i < (xs.length : Int) then (if 0 ≤ i then (E k (xs.getD i.toNat z) left).bind fun t => (if t < 0 then some (-1) else L k xs t (wrap64 (i + 1))) else none) else some left)
 (Q P : α → Prop) (hE : ∀ x left, 0 ≤ left → left ≤ B → Q x → ∃ t, Ev (fun k => E k x left) t ∧ (t < 0 ∨ (0 ≤ t ∧ t ≤ left ∧ P x)))
 (xs : List α) (hn : xs.length < 9223372036854775807) (hQ : ∀ x ∈ xs, Q x) (left : Int) (h0 : 0 ≤ left) (h1 : left ≤ B) :
 ∃ t, (t < 0 ∨ (0 ≤ t ∧ t ≤ left ∧ ∀ x ∈ xs, P x)) ∧ Ev (fun k => L k xs left 0) t := by
 refine ev_loop (fun k (s : Int) (i : Nat) => L k xs s i) xs.length (fun i s => 0 ≤ s ∧ s ≤ left ∧ ∀ x ∈ xs.take i, P x) _ ?_ ?_ 0 left (Nat.zero_le _) ⟨h0, Int.le_refl _, by simp⟩
 ·
  rintro i s hi ⟨hs0, hs1, hP⟩
  have hg : xs.getD (i : Int).toNat z = xs[i] := by rw [Int.toNat_natCast, List.getD_eq_getElem?_getD, List.getElem?_eq_getElem hi]; rfl
  obtain ⟨t, ht, hc⟩ := hE xs[i] s hs0 (by omega) (hQ _ (List.getElem_mem hi))
  have c1 : (i : Int) < (xs.length : Int) := by omega
  have c2 : 0 ≤ (i : Int) := by omega
  rcases hc with hneg | ⟨ht0, ht1, hPx⟩
  · refine .inl ⟨-1, .inl (by omega), Ev.shift ?_⟩
    simp only [hL, if_pos c1, if_pos c2, hg]
    exact Ev.bind ht (by simp only [if_pos hneg]; exact Ev.now _)
  refine .inr ⟨t, ⟨ht0, by omega, ?_⟩, fun r hr => Ev.shift ?_⟩
  · intro x hx
    rw [List.take_succ_eq_append_getElem hi] at hx
    rcases List.mem_append.1 hx with hx | hx
    · exact hP x hx
    rw [List.mem_singleton.1 hx]; exact hPx
  simp only [hL, if_pos c1, if_pos c2, hg]
  have c3 : ¬ t < 0 := by omega
  refine Ev.bind ht ?_
  simp only [if_neg c3, wrap_nat i (by omega)]
  exact hr
 rintro s ⟨hs0, hs1, hP⟩
 refine ⟨s, .inr ⟨hs0, hs1, by simpa using hP⟩, Ev.shift ?_⟩
 have c1 : ¬ (xs.length : Int) < (xs.length : Int) := by omega
 simp only [hL, if_neg c1]
 exact Ev.now _
theorem set_take {α : Type} (out : List α) (i : Nat) (x : α) (h : i < out.length) : (out.set i x).take (i + 1) = out.take i ++ [x] := by
 apply List.ext_getElem?
 intro j
 by_cases hj : j < i
 · rw [List.getElem?_take_of_lt (by omega), List.getElem?_set_ne (by omega), List.getElem?_append_left (by simp; omega), List.getElem?_take_of_lt hj]
 by_cases hji : j = i
 · subst hji
   rw [List.getElem?_take_of_lt (by omega), List.getElem?_set_self h, List.getElem?_append_right (by simp; omega)]
   simp [Nat.min_eq_left (Nat.le_of_lt h)]
 rw [List.getElem?_eq_none (by simp; omega), List.getElem?_eq_none (by simp; omega)]
theorem to_loop {α β γ : Type} (z : α) (E : Nat → α → Option β) (mk : β → γ) (L : Nat → List α → List γ → Int → Option (List γ))
 (hL : ∀ k xs out i, L (k + 1) xs out i = if i < (xs.length : Int) then (if 0 ≤ i then (E k (xs.getD i.toNat z)).bind fun t => (if i < (out.length : Int) then L k xs (out.set i.toNat (mk t)) (wrap64 (i + 1)) else none) else none) else some out)
 (conv : α → γ) (xs : List α) (hE : ∀ x ∈ xs, ∃ t, Ev (fun k => E k x) t ∧ mk t = conv x) (hn : xs.length < 9223372036854775807) (out : List γ) (ho : out.length = xs.length) :
 Ev (fun k => L k xs out 0) (xs.map conv) := by
 refine Exists.elim (ev_loop (fun k (s : List γ) (i : Nat) => L k xs s i) xs.length (fun i s => s.length = xs.length ∧ s.take i = (xs.take i).map conv) (fun r => r = xs.map conv) ?_ ?_ 0 out (Nat.zero_le _) ⟨ho, by simp⟩) (fun r h => by obtain ⟨rfl, hr⟩ := h; exact hr)
 ·
  rintro i s hi ⟨hs, ht⟩
  have hg : xs.getD (i : Int).toNat z = xs[i] := by rw [Int.toNat_natCast, List.getD_eq_getElem?_getD, List.getElem?_eq_getElem hi]; rfl
  obtain ⟨t, hev, hm⟩ := hE xs[i] (List.getElem_mem hi)
  have c1 : (i : Int) < (xs.length : Int) := by omega
  have c2 : 0 ≤ (i : Int) := by omega
  have c3 : (i : Int) < (s.length : Int) := by omega
  refine .inr ⟨s.set i (mk t), ⟨by simp [hs], ?_⟩, fun r hr => Ev.shift ?_⟩
  · rw [set_take _ _ _ (by omega), ht, List.take_succ_eq_append_getElem hi, List.map_append, hm]
    rfl
  simp only [hL, if_pos c1, if_pos c2, hg]
  refine Ev.bind hev ?_
  simp only [if_pos c3, wrap_nat i (by omega), Int.toNat_natCast]
  exact hr
 rintro s ⟨hs, ht⟩
 refine ⟨s, ?_, Ev.shift ?_⟩
 · rw [← hs, List.take_length, hs, List.take_length] at ht
   exact ht
 have c1 : ¬ (xs.length : Int) < (xs.length : Int) := by omega
 simp only [hL, if_neg c1]
 exact Ev.now _
theorem eq_loop {α : Type} (z : α) (E : Nat → α → α → Option Bool) (L : Nat → List α → List α → Int → Option Bool)
 (hL : ∀ k xs ys i, L (k + 1) xs ys i = if i < (xs.length : Int) then (if 0 ≤ i then (if i < (ys.length : Int) then (E k (xs.getD i.toNat z) (ys.getD i.toNat z)).bind fun t => (if t = true then L k xs ys (wrap64 (i + 1)) else some false) else none) else none) else some true)
 (xs : List α) (hE : ∀ x ∈ xs, Ev (fun k => E k x x) true) (hn : xs.length < 9223372036854775807) : Ev (fun k => L k xs xs 0) true := by
 refine Exists.elim (ev_loop (fun k (_ : Unit) (i : Nat) => L k xs xs i) xs.length (fun _ _ => True) (fun r => r = true) ?_ ?_ 0 () (Nat.zero_le _) trivial) (fun r h => by obtain ⟨rfl, hr⟩ := h; exact hr)
 ·
  rintro i s hi -
  have hg : xs.getD (i : Int).toNat z = xs[i] := by rw [Int.toNat_natCast, List.getD_eq_getElem?_getD, List.getElem?_eq_getElem hi]; rfl
  have c1 : (i : Int) < (xs.length : Int) := by omega
  have c2 : 0 ≤ (i : Int) := by omega
  refine .inr ⟨(), trivial, fun r hr => Ev.shift ?_⟩
  simp only [hL, if_pos c1, if_pos c2, hg]
  refine Ev.bind (hE xs[i] (List.getElem_mem hi)) ?_
  simp only [if_true, wrap_nat i (by omega)]
  exact hr
 rintro s -
 refine ⟨true, rfl, Ev.shift ?_⟩
 have c1 : ¬ (xs.length : Int) < (xs.length : Int) := by omega
 simp only [hL, if_neg c1]
 exact Ev.now _
end Go.Proofs.YtnbohlcibgfjaaaDoor.Gp
end
