/- A part of the proof of RowFnExactTokens: each text's theorems that it needs, packed by shake.py, a program of this work; Lean checks them. -/
import Derived.Test.YtiicaoiijhodkaaDoorVk0
import Derived.Lib.Strings
section
namespace Go.Proofs.YtiicaoiijhodkaaDoor.Gp
open Go.RowKit Go.Proofs.YtiicaoiijhodkaaDoorW.PrintWords
theorem Ev.shift {α : Type} {g : Nat → Option α} {r : α} (h : Ev (fun k => g (k + 1)) r) : Ev g r := by
  obtain ⟨K, h⟩ := h
  refine ⟨K + 1, fun n hn => ?_⟩
  obtain ⟨m, rfl⟩ : ∃ m, n = m + 1 := ⟨n - 1, by omega⟩
  exact h m (by omega)
theorem wrap_nat (i : Nat) (h : i < 9223372036854775807) : wrap64 ((i : Int) + 1) = ((i + 1 : Nat) : Int) := by unfold wrap64; omega
theorem ev_loop {σ ρ : Type} (L : Nat → σ → Nat → Option ρ) (n : Nat) (Inv : Nat → σ → Prop) (Post : ρ → Prop)
    (step : ∀ i s, i < n → Inv i s → (∃ r, Post r ∧ Ev (fun k => L k s i) r) ∨ ∃ s', Inv (i + 1) s' ∧ ∀ r, Ev (fun k => L k s' (i + 1)) r → Ev (fun k => L k s i) r)
    (fin : ∀ s, Inv n s → ∃ r, Post r ∧ Ev (fun k => L k s n) r) : ∀ (i : Nat) (s : σ), i ≤ n → Inv i s → ∃ r, Post r ∧ Ev (fun k => L k s i) r := by
  have key : ∀ (d i : Nat) (s : σ), n - i = d → i ≤ n → Inv i s → ∃ r, Post r ∧ Ev (fun k => L k s i) r := by
    intro d
    induction d with
    | zero =>
      intro i s hd hi h
      obtain rfl : i = n := by omega
      exact fin s h
    | succ d ih =>
      intro i s hd hi h
      rcases step i s (by omega) h with h' | ⟨s', hs, hr⟩
      · exact h'
      · obtain ⟨r, hp, he⟩ := ih (i + 1) s' (by omega) (by omega) hs
        exact ⟨r, hp, hr r he⟩
  exact fun i s => key (n - i) i s rfl
theorem eq_loop {α : Type} (z : α) (E : Nat → α → α → Option Bool) (L : Nat → List α → List α → Int → Option Bool)
    (hL : ∀ k xs ys i, L (k + 1) xs ys i = if i < (xs.length : Int) then (if 0 ≤ i then (if i < (ys.length : Int) then (E k (xs.getD i.toNat z) (ys.getD i.toNat z)).bind fun t => (if t = true then L k xs ys (wrap64 (i + 1)) else some false) else none) else none) else some true)
    (xs : List α) (hE : ∀ x ∈ xs, Ev (fun k => E k x x) true) (hn : xs.length < 9223372036854775807) : Ev (fun k => L k xs xs 0) true := by
  refine Exists.elim (ev_loop (fun k (_ : Unit) (i : Nat) => L k xs xs i) xs.length (fun _ _ => True) (fun r => r = true) ?_ ?_ 0 () (Nat.zero_le _) trivial) (fun r h => by obtain ⟨rfl, hr⟩ := h; exact hr)
  · rintro i s hi -
    have hg : xs.getD (i : Int).toNat z = xs[i] := by rw [Int.toNat_natCast, List.getD_eq_getElem?_getD, List.getElem?_eq_getElem hi]; rfl
    have c1 : (i : Int) < (xs.length : Int) := by omega
    have c2 : 0 ≤ (i : Int) := by omega
    refine .inr ⟨(), trivial, fun r hr => Ev.shift ?_⟩
    simp only [hL, if_pos c1, if_pos c2, hg]
    refine Ev.bind (hE xs[i] (List.getElem_mem hi)) ?_
    simp only [if_true, wrap_nat i (by omega)]
    exact hr
  · rintro s -
    refine ⟨true, rfl, Ev.shift ?_⟩
    have c1 : ¬ (xs.length : Int) < (xs.length : Int) := by omega
    simp only [hL, if_neg c1]
    exact Ev.now _
end Go.Proofs.YtiicaoiijhodkaaDoor.Gp
end
