/- A part of the proof of RowFnExactShowOutcome: each text's theorems that it needs, packed by shake.py, a program of this work; Lean checks them. -/
import Derived.Test.YtidgimpdjfmbnaaDoorSho0
import Derived.Lib.Strings
import Derived.Deep.Slices
import Derived.ChangeArms
import Derived.WideShapes
section
namespace Go.Proofs.YtidgimpdjfmbnaaDoor.Gp
open Go.RowKit Go.Proofs.YtidgimpdjfmbnaaDoorW.PrintWords
theorem data_inj0 {s t : ByteArray} (h : s.data.toList = t.data.toList) : s = t := by
  cases s with
  | mk a => cases t with
    | mk b => simp only at h; rw [Array.toList_inj.1 h]
theorem Ev.shift {α : Type} {g : Nat → Option α} {r : α} (h : Ev (fun k => g (k + 1)) r) : Ev g r := by
  obtain ⟨K, h⟩ := h
  refine ⟨K + 1, fun n hn => ?_⟩
  obtain ⟨m, rfl⟩ : ∃ m, n = m + 1 := ⟨n - 1, by omega⟩
  exact h m (by omega)
theorem Ev.const {α : Type} {o : Option α} {r : α} (h : o = some r) : Ev (fun _ => o) r := ⟨0, fun _ _ => h⟩
theorem wrap_nat (i : Nat) (h : i < 9223372036854775807) : wrap64 ((i : Int) + 1) = ((i + 1 : Nat) : Int) := by unfold wrap64; omega
theorem ev_loop {σ ρ : Type} (L : Nat → σ → Nat → Option ρ) (n : Nat) (Inv : Nat → σ → Prop) (Post : ρ → Prop)
    (step : ∀ i s, i < n → Inv i s → (∃ r, Post r ∧ Ev (fun k => L k s i) r) ∨ ∃ s', Inv (i + 1) s' ∧ ∀ r, Ev (fun k => L k s' (i + 1)) r → Ev (fun k => L k s i) r)
    (fin : ∀ s, Inv n s → ∃ r, Post r ∧ Ev (fun k => L k s n) r) : ∀ (i : Nat) (s : σ), i ≤ n → Inv i s → ∃ r, Post r ∧ Ev (fun k => L k s i) r := by
  have key : ∀ (d i : Nat) (s : σ), n - i = d → i ≤ n → Inv i s → ∃ r, Post r ∧ Ev (fun k => L k s i) r := by
    intro d
    induction d with
    | zero =>
      intro i s hd hi h
      obtain rfl : i = n := by omega
      exact fin s h
    | succ d ih =>
      intro i s hd hi h
      rcases step i s (by omega) h with h' | ⟨s', hs, hr⟩
      · exact h'
      · obtain ⟨r, hp, he⟩ := ih (i + 1) s' (by omega) (by omega) hs
        exact ⟨r, hp, hr r he⟩
  exact fun i s => key (n - i) i s rfl
theorem sz_loop {α : Type} (z : α) (E : Nat → α → Int → Option Int) (L : Nat → List α → Int → Int → Option Int) (B : Int)
    (hL : ∀ k xs left i, L (k + 1) xs left i = if i < (xs.length : Int) then (if 0 ≤ i then (E k (xs.getD i.toNat z) left).bind fun t => (if t < 0 then some (-1) else L k xs t (wrap64 (i + 1))) else none) else some left)
    (Q P : α → Prop) (hE : ∀ x left, 0 ≤ left → left ≤ B → Q x → ∃ t, Ev (fun k => E k x left) t ∧ (t < 0 ∨ (0 ≤ t ∧ t ≤ left ∧ P x)))
    (xs : List α) (hn : xs.length < 9223372036854775807) (hQ : ∀ x ∈ xs, Q x) (left : Int) (h0 : 0 ≤ left) (h1 : left ≤ B) :
    ∃ t, (t < 0 ∨ (0 ≤ t ∧ t ≤ left ∧ ∀ x ∈ xs, P x)) ∧ Ev (fun k => L k xs left 0) t := by
  refine ev_loop (fun k (s : Int) (i : Nat) => L k xs s i) xs.length (fun i s => 0 ≤ s ∧ s ≤ left ∧ ∀ x ∈ xs.take i, P x) _ ?_ ?_ 0 left (Nat.zero_le _) ⟨h0, Int.le_refl _, by simp⟩
  · rintro i s hi ⟨hs0, hs1, hP⟩
    have hg : xs.getD (i : Int).toNat z = xs[i] := by rw [Int.toNat_natCast, List.getD_eq_getElem?_getD, List.getElem?_eq_getElem hi]; rfl
    obtain ⟨t, ht, hc⟩ := hE xs[i] s hs0 (by omega) (hQ _ (List.getElem_mem hi))
    have c1 : (i : Int) < (xs.length : Int) := by omega
    have c2 : 0 ≤ (i : Int) := by omega
    rcases hc with hneg | ⟨ht0, ht1, hPx⟩
    · refine .inl ⟨-1, .inl (by omega), Ev.shift ?_⟩
      simp only [hL, if_pos c1, if_pos c2, hg]
      exact Ev.bind ht (by simp only [if_pos hneg]; exact Ev.now _)
    · refine .inr ⟨t, ⟨ht0, by omega, ?_⟩, fun r hr => Ev.shift ?_⟩
      · intro x hx
        rw [List.take_succ_eq_append_getElem hi] at hx
        rcases List.mem_append.1 hx with hx | hx
        · exact hP x hx
        · rw [List.mem_singleton.1 hx]; exact hPx
      · simp only [hL, if_pos c1, if_pos c2, hg]
        have c3 : ¬ t < 0 := by omega
        refine Ev.bind ht ?_
        simp only [if_neg c3, wrap_nat i (by omega)]
        exact hr
  · rintro s ⟨hs0, hs1, hP⟩
    refine ⟨s, .inr ⟨hs0, hs1, by simpa using hP⟩, Ev.shift ?_⟩
    have c1 : ¬ (xs.length : Int) < (xs.length : Int) := by omega
    simp only [hL, if_neg c1]
    exact Ev.now _
theorem set_take {α : Type} (out : List α) (i : Nat) (x : α) (h : i < out.length) : (out.set i x).take (i + 1) = out.take i ++ [x] := by
  apply List.ext_getElem?
  intro j
  by_cases hj : j < i
  · rw [List.getElem?_take_of_lt (by omega), List.getElem?_set_ne (by omega), List.getElem?_append_left (by simp; omega), List.getElem?_take_of_lt hj]
  · by_cases hji : j = i
    · subst hji
      rw [List.getElem?_take_of_lt (by omega), List.getElem?_set_self h, List.getElem?_append_right (by simp; omega)]
      simp [Nat.min_eq_left (Nat.le_of_lt h)]
    · rw [List.getElem?_eq_none (by simp; omega), List.getElem?_eq_none (by simp; omega)]
theorem to_loop {α β γ : Type} (z : α) (E : Nat → α → Option β) (mk : β → γ) (L : Nat → List α → List γ → Int → Option (List γ))
    (hL : ∀ k xs out i, L (k + 1) xs out i = if i < (xs.length : Int) then (if 0 ≤ i then (E k (xs.getD i.toNat z)).bind fun t => (if i < (out.length : Int) then L k xs (out.set i.toNat (mk t)) (wrap64 (i + 1)) else none) else none) else some out)
    (conv : α → γ) (xs : List α) (hE : ∀ x ∈ xs, ∃ t, Ev (fun k => E k x) t ∧ mk t = conv x) (hn : xs.length < 9223372036854775807) (out : List γ) (ho : out.length = xs.length) :
    Ev (fun k => L k xs out 0) (xs.map conv) := by
  refine Exists.elim (ev_loop (fun k (s : List γ) (i : Nat) => L k xs s i) xs.length (fun i s => s.length = xs.length ∧ s.take i = (xs.take i).map conv) (fun r => r = xs.map conv) ?_ ?_ 0 out (Nat.zero_le _) ⟨ho, by simp⟩) (fun r h => by obtain ⟨rfl, hr⟩ := h; exact hr)
  · rintro i s hi ⟨hs, ht⟩
    have hg : xs.getD (i : Int).toNat z = xs[i] := by rw [Int.toNat_natCast, List.getD_eq_getElem?_getD, List.getElem?_eq_getElem hi]; rfl
    obtain ⟨t, hev, hm⟩ := hE xs[i] (List.getElem_mem hi)
    have c1 : (i : Int) < (xs.length : Int) := by omega
    have c2 : 0 ≤ (i : Int) := by omega
    have c3 : (i : Int) < (s.length : Int) := by omega
    refine .inr ⟨s.set i (mk t), ⟨by simp [hs], ?_⟩, fun r hr => Ev.shift ?_⟩
    · rw [set_take _ _ _ (by omega), ht, List.take_succ_eq_append_getElem hi, List.map_append, hm]
      rfl
    · simp only [hL, if_pos c1, if_pos c2, hg]
      refine Ev.bind hev ?_
      simp only [if_pos c3, wrap_nat i (by omega), Int.toNat_natCast]
      exact hr
  · rintro s ⟨hs, ht⟩
    refine ⟨s, ?_, Ev.shift ?_⟩
    · rw [← hs, List.take_length, hs, List.take_length] at ht
      exact ht
    · have c1 : ¬ (xs.length : Int) < (xs.length : Int) := by omega
      simp only [hL, if_neg c1]
      exact Ev.now _
theorem eq_loop {α : Type} (z : α) (E : Nat → α → α → Option Bool) (L : Nat → List α → List α → Int → Option Bool)
    (hL : ∀ k xs ys i, L (k + 1) xs ys i = if i < (xs.length : Int) then (if 0 ≤ i then (if i < (ys.length : Int) then (E k (xs.getD i.toNat z) (ys.getD i.toNat z)).bind fun t => (if t = true then L k xs ys (wrap64 (i + 1)) else some false) else none) else none) else some true)
    (xs : List α) (hE : ∀ x ∈ xs, Ev (fun k => E k x x) true) (hn : xs.length < 9223372036854775807) : Ev (fun k => L k xs xs 0) true := by
  refine Exists.elim (ev_loop (fun k (_ : Unit) (i : Nat) => L k xs xs i) xs.length (fun _ _ => True) (fun r => r = true) ?_ ?_ 0 () (Nat.zero_le _) trivial) (fun r h => by obtain ⟨rfl, hr⟩ := h; exact hr)
  · rintro i s hi -
    have hg : xs.getD (i : Int).toNat z = xs[i] := by rw [Int.toNat_natCast, List.getD_eq_getElem?_getD, List.getElem?_eq_getElem hi]; rfl
    have c1 : (i : Int) < (xs.length : Int) := by omega
    have c2 : 0 ≤ (i : Int) := by omega
    refine .inr ⟨(), trivial, fun r hr => Ev.shift ?_⟩
    simp only [hL, if_pos c1, if_pos c2, hg]
    refine Ev.bind (hE xs[i] (List.getElem_mem hi)) ?_
    simp only [if_true, wrap_nat i (by omega)]
    exact hr
  · rintro s -
    refine ⟨true, rfl, Ev.shift ?_⟩
    have c1 : ¬ (xs.length : Int) < (xs.length : Int) := by omega
    simp only [hL, if_neg c1]
    exact Ev.now _
end Go.Proofs.YtidgimpdjfmbnaaDoor.Gp
end
section
namespace Go.Proofs.YtidgimpdjfmbnaaDoor.Gp
open Go.RowKit Go.ChangeShapes Go.WideShapes Go.Deep Go.Proofs.YtidgimpdjfmbnaaDoorW.PrintWords
structure Opn (P : Program) (T : Nat) {α : Type} (d : Kd α) (Q : α → Prop) : Prop where
  sz : d.sz = P.cellsOf T
  op : ∀ {H : Type} {enc : TypeId × Value → H} {w : World} {base : Nat} {sp : Nat → Bool} {held : Bool} {fuel : Nat} {cs : List Value} {y : DataW H × List MemPlace}, DataW.trod enc P w base sp held fuel T cs = some y → ∃ x, d.K w x cs ∧ Q x
theorem Opn.int {P : Program} {T : Nat} {k : IntKind} (ht : P.underlying T = some (.int k)) (hc : P.cellsOf T = 1) : Opn P T (Kd.int k) (fun n => (Lit.int k n).wf = true) :=
  ⟨hc.symm, fun h => by obtain ⟨n, rfl, _, hw⟩ := DataW.trod_int ht h; exact ⟨n, rfl, hw⟩⟩
theorem Opn.bool {P : Program} {T : Nat} (ht : P.underlying T = some .bool) (hc : P.cellsOf T = 1) : Opn P T Kd.bool (fun _ => True) :=
  ⟨hc.symm, fun h => by obtain ⟨n, rfl, _⟩ := DataW.trod_bool ht h; exact ⟨n, rfl, trivial⟩⟩
theorem Opn.string {P : Program} {T : Nat} (ht : P.underlying T = some .string) (hc : P.cellsOf T = 1) : Opn P T Kd.string (fun s => s.size ≤ maxLen) :=
  ⟨hc.symm, fun h => by obtain ⟨s, rfl, _, hs⟩ := DataW.trod_string ht h; exact ⟨s, rfl, hs⟩⟩
theorem Opn.row {P : Program} {e : Nat} {α : Type} {d : Kd α} {Q : α → Prop} (h : Opn P e d Q) {T : Nat} (ht : P.underlying T = some (.slice e)) {H : Type} {enc : TypeId × Value → H} {w : World} {base : Nat} {sp : Nat → Bool} {held : Bool} {fuel : Nat} {cs : List Value} {y : DataW H × List MemPlace}
    (hy : DataW.trod enc P w base sp held fuel T cs = some y) : ∃ (xs : List α) (A : Option Addr) (c : Nat), cs = [.slice A xs.length c] ∧ xs.length ≤ c ∧ d.C w A xs.length xs ∧ xs.length ≤ maxLen ∧ ∀ x ∈ xs, Q x := by
  rcases open_slice ht hy with ⟨rfl, _⟩ | ⟨a, len, cap, m, n, D, Pl, rfl, _, hl, hm, hmm, _, hx⟩
  · exact ⟨[], none, 0, rfl, Nat.le_refl _, ⟨rfl, by simp, fun h => absurd h (by simp)⟩, Nat.zero_le _, fun _ h => by cases h⟩
  · have hlm : len ≤ m := by rw [hmm]; split <;> omega
    have each : ∀ i, i < len → ∃ x, (∃ c, c.length = d.sz ∧ d.K w x c ∧ ∀ i' u, c[i']? = some u → w.cell? (a.add (i * d.sz + i')) = some u) ∧ Q x := fun i hi => by
      obtain ⟨cs', h1, h2⟩ := hx i (by omega)
      obtain ⟨x, hK, hQ⟩ := h.op h2
      obtain ⟨_, hlen, hcell⟩ := World.cells?_some h1
      refine ⟨x, ⟨cs', by rw [hlen, h.sz], hK, fun i' u hu => ?_⟩, hQ⟩
      have hlt : i' < cs'.length := (List.getElem?_eq_some_iff.1 hu).1
      have := hcell i' (by omega)
      rw [Go.Deep.add_add, hu] at this
      rw [h.sz]
      exact this
    have build : ∀ k, k ≤ len → ∃ xs : List α, xs.length = k ∧ ∀ j p, xs[j]? = some p → (∃ c, c.length = d.sz ∧ d.K w p c ∧ ∀ i' u, c[i']? = some u → w.cell? (a.add (j * d.sz + i')) = some u) ∧ Q p := by
      intro k
      induction k with
      | zero => exact fun _ => ⟨[], rfl, fun j p hp => by simp at hp⟩
      | succ k ih =>
        intro hk
        obtain ⟨xs, hxl, hxs⟩ := ih (by omega)
        obtain ⟨x, hx1, hx2⟩ := each k (by omega)
        refine ⟨xs ++ [x], by simp [hxl], fun j p hp => ?_⟩
        by_cases hj : j < xs.length
        · rw [List.getElem?_append_left hj] at hp
          exact hxs j p hp
        · rw [List.getElem?_append_right (by omega)] at hp
          obtain rfl : j = k := by
            have := (List.getElem?_eq_some_iff.1 hp).1
            simp at this
            omega
          rw [hxl, Nat.sub_self] at hp
          obtain rfl : x = p := by simpa using hp
          exact ⟨hx1, hx2⟩
    obtain ⟨xs, hxl, hxs⟩ := build len (Nat.le_refl _)
    subst hxl
    refine ⟨xs, some a, cap, rfl, hl, ⟨rfl, by unfold maxLen at hm; omega, fun _ => ⟨a, rfl, fun j p hp => (hxs j p hp).1⟩⟩, by omega, fun x hx => ?_⟩
    obtain ⟨j, hj⟩ := List.getElem?_of_mem hx
    exact (hxs j x hj).2
theorem Opn.slice {P : Program} {e : Nat} {α : Type} {d : Kd α} {Q : α → Prop} (h : Opn P e d Q) {T : Nat} (ht : P.underlying T = some (.slice e)) (hc : P.cellsOf T = 1) : Opn P T (Kd.slice e d) (fun xs => xs.length ≤ maxLen ∧ ∀ x ∈ xs, Q x) :=
  ⟨hc.symm, fun hy => by
    obtain ⟨xs, A, c, rfl, hl, hC, hm, hQ⟩ := h.row ht hy
    exact ⟨xs, ⟨A, c, rfl, hl, hC⟩, hm, hQ⟩⟩
/-- The fields of a struct, from place off on. -/
structure OpnF (P : Program) (fs : List Field) (off : Nat) {α : Type} (d : Kd α) (Q : α → Prop) : Prop where
  op : ∀ {H : Type} {enc : TypeId × Value → H} {w : World} {base : Nat} {sp : Nat → Bool} {held : Bool} {n : Nat} {cs : List Value} {xs : List (DataW H × List MemPlace)}, off + d.sz ≤ cs.length → xs.length = fs.length →
    (∀ (i : Nat) (f : Field), fs[i]? = some f → DataW.trod enc P w base sp held n f.type ((cs.drop f.offset).take (P.cellsOf f.type)) = xs[i]?) → ∃ x, d.K w x ((cs.drop off).take d.sz) ∧ Q x
theorem OpnF.one {P : Program} {f : Field} {off : Nat} {α : Type} {d : Kd α} {Q : α → Prop} (h : Opn P f.type d Q) (ho : f.offset = off) : OpnF P [f] off d Q :=
  ⟨fun hl hx hf => by
    have h0 := hf 0 f rfl
    obtain ⟨y, rfl⟩ := List.length_eq_one_iff.1 hx
    obtain ⟨x, hK, hQ⟩ := h.op (h0.trans rfl)
    rw [ho, ← h.sz] at hK
    exact ⟨x, hK, hQ⟩⟩
theorem OpnF.cons {P : Program} {f : Field} {r : List Field} {off : Nat} {α β : Type} {d : Kd α} {e : Kd β} {Q : α → Prop} {R : β → Prop} (h : Opn P f.type d Q) (ho : f.offset = off) (hr : OpnF P r (off + d.sz) e R) :
    OpnF P (f :: r) off (Kd.pair d e) (fun x => Q x.1 ∧ R x.2) :=
  ⟨fun {H enc w base sp held n cs xs} hl hx hf => by
    have hl' : off + (d.sz + e.sz) ≤ cs.length := hl
    match xs, hx with
    | y :: ys, hx =>
      obtain ⟨x, hK, hQ⟩ := h.op ((hf 0 f rfl).trans rfl)
      rw [ho, ← h.sz] at hK
      obtain ⟨z, hKz, hR⟩ := hr.op (cs := cs) (xs := ys) (by omega) (by simpa using hx) (fun i g hg => by simpa using hf (i + 1) g (by simpa using hg))
      refine ⟨(x, z), ⟨_, _, ?_, hK, hKz⟩, hQ, hR⟩
      show (cs.drop off).take (d.sz + e.sz) = _
      rw [List.take_add, List.drop_drop]⟩
theorem Opn.struct {P : Program} {T : Nat} {fs : Array Field} {α : Type} {d : Kd α} {Q : α → Prop} (ht : P.underlying T = some (.struct fs)) (h : OpnF P fs.toList 0 d Q) (hc : P.cellsOf T = d.sz) : Opn P T d Q :=
  ⟨hc.symm, fun hy => by
    obtain ⟨xs, n, _, _, hl, hlen, hf⟩ := DataW.trod_struct ht hy
    obtain ⟨x, hK, hQ⟩ := h.op (xs := xs) (by omega) (by simpa using hlen) (fun i f hf' => hf i f (by simpa using hf'))
    rw [List.drop_zero, ← hc, ← hl, List.take_length] at hK
    exact ⟨x, hK, hQ⟩⟩
theorem Opn.iso {P : Program} {T : Nat} {α β : Type} {d : Kd α} {Q : α → Prop} (h : Opn P T d Q) (f : β → α) (g : α → β) (hfg : ∀ a, f (g a) = a) : Opn P T (Kd.iso d f) (fun x => Q (f x)) :=
  ⟨h.sz, fun hy => by
    obtain ⟨x, hK, hQ⟩ := h.op hy
    exact ⟨g x, by show d.K _ (f (g x)) _; rw [hfg]; exact hK, by show Q (f (g x)); rw [hfg]; exact hQ⟩⟩
end Go.Proofs.YtidgimpdjfmbnaaDoor.Gp
end
