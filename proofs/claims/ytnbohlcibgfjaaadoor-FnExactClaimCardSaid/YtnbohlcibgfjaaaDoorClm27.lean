/- A part of the proof of RowFnExactClaim: each text's theorems that it needs, packed by shake.py, a program of this work; Lean checks them. -/
import Derived.Test.YtnbohlcibgfjaaaDoorClm0
import Derived.Deep.Slices
import Derived.ChangeArms
import Derived.WideShapes
section
namespace Go.Proofs.YtnbohlcibgfjaaaDoor.Gp
open Go.RowKit Go.ChangeShapes Go.WideShapes Go.Deep Go.Proofs.YtnbohlcibgfjaaaDoorW.PrintWords
structure Opn (P : Program) (T : Nat) {α : Type} (d : Kd α) (Q : α → Prop) : Prop where
 sz : d.sz = P.cellsOf T
 op : ∀ {H : Type} {enc : TypeId × Value → H} {w : World} {base : Nat} {sp : Nat → Bool} {held : Bool} {fuel : Nat} {cs : List Value} {y : DataW H × List MemPlace}, DataW.trod enc P w base sp held fuel T cs = some y → ∃ x, d.K w x cs ∧ Q x
theorem Opn.int {P : Program} {T : Nat} {k : IntKind} (ht : P.underlying T = some (.int k)) (hc : P.cellsOf T = 1) : Opn P T (Kd.int k) (fun n => (Lit.int k n).wf = true) :=
 ⟨hc.symm, fun h => by obtain ⟨n, rfl, _, hw⟩ := DataW.trod_int ht h; exact ⟨n, rfl, hw⟩⟩
theorem Opn.bool {P : Program} {T : Nat} (ht : P.underlying T = some .bool) (hc : P.cellsOf T = 1) : Opn P T Kd.bool (fun _ => True) :=
 ⟨hc.symm, fun h => by obtain ⟨n, rfl, _⟩ := DataW.trod_bool ht h; exact ⟨n, rfl, trivial⟩⟩
theorem Opn.string {P : Program} {T : Nat} (ht : P.underlying T = some .string) (hc : P.cellsOf T = 1) : Opn P T Kd.string (fun s => s.size ≤ maxLen) :=
 ⟨hc.symm, fun h => by obtain ⟨s, rfl, _, hs⟩ := DataW.trod_string ht h; exact ⟨s, rfl, hs⟩⟩
theorem Opn.row {P : Program} {e : Nat} {α : Type} {d : Kd α} {Q : α → Prop} (h : Opn P e d Q) {T : Nat} (ht : P.underlying T = some (.slice e)) {H : Type} {enc : TypeId × Value → H} {w : World} {base : Nat} {sp : Nat → Bool} {held : Bool} {fuel : Nat} {cs : List Value} {y : DataW H × List MemPlace}
 (hy : DataW.trod enc P w base sp held fuel T cs = some y) : ∃ (xs : List α) (A : Option Addr) (c : Nat), cs = [.slice A xs.length c] ∧ xs.length ≤ c ∧ d.C w A xs.length xs ∧ xs.length ≤ maxLen ∧ ∀ x ∈ xs, Q x := by
 rcases open_slice ht hy with ⟨rfl, _⟩ | ⟨a, len, cap, m, n, D, Pl, rfl, _, hl, hm, hmm, _, hx⟩
 · exact ⟨[], none, 0, rfl, Nat.le_refl _, ⟨rfl, by simp, fun h => absurd h (by simp)⟩, Nat.zero_le _, fun _ h => by cases h⟩
 have hlm : len ≤ m := by rw [hmm]; split <;> omega
 have each : ∀ i, i < len → ∃ x, (∃ c, c.length = d.sz ∧ d.K w x c ∧ ∀ i' u, c[i']? = some u → w.cell? (a.add (i * d.sz + i')) = some u) ∧ Q x := fun i hi => by
  obtain ⟨cs', h1, h2⟩ := hx i (by omega)
  obtain ⟨x, hK, hQ⟩ := h.op h2
  obtain ⟨_, hlen, hcell⟩ := World.cells?_some h1
  refine ⟨x, ⟨cs', by rw [hlen, h.sz], hK, fun i' u hu => ?_⟩, hQ⟩
  have hlt : i' < cs'.length := (List.getElem?_eq_some_iff.1 hu).1
  have := hcell i' (by omega)
  rw [Go.Deep.add_add, hu] at this
  rw [h.sz]
  exact this
 have build : ∀ k, k ≤ len → ∃ xs : List α, xs.length = k ∧ ∀ j p, xs[j]? = some p → (∃ c, c.length = d.sz ∧ d.K w p c ∧ ∀ i' u, c[i']? = some u → w.cell? (a.add (j * d.sz + i')) = some u) ∧ Q p := by
  intro k
  induction k with
  | zero => exact fun _ => ⟨[], rfl, fun j p hp => by simp at hp⟩
  | succ k ih =>
   intro hk
   obtain ⟨xs, hxl, hxs⟩ := ih (by omega)
   obtain ⟨x, hx1, hx2⟩ := each k (by omega)
   refine ⟨xs ++ [x], by simp [hxl], fun j p hp => ?_⟩
   by_cases hj : j < xs.length
   · rw [List.getElem?_append_left hj] at hp
     exact hxs j p hp
   rw [List.getElem?_append_right (by omega)] at hp
   obtain rfl : j = k := by
    have := (List.getElem?_eq_some_iff.1 hp).1
    simp at this
    omega
   rw [hxl, Nat.sub_self] at hp
   obtain rfl : x = p := by simpa using hp
   exact ⟨hx1, hx2⟩
 obtain ⟨xs, hxl, hxs⟩ := build len (Nat.le_refl _)
 subst hxl
 refine ⟨xs, some a, cap, rfl, hl, ⟨rfl, by unfold maxLen at hm; omega, fun _ => ⟨a, rfl, fun j p hp => (hxs j p hp).1⟩⟩, by omega, fun x hx => ?_⟩
 obtain ⟨j, hj⟩ := List.getElem?_of_mem hx
 exact (hxs j x hj).2
theorem Opn.slice {P : Program} {e : Nat} {α : Type} {d : Kd α} {Q : α → Prop} (h : Opn P e d Q) {T : Nat} (ht : P.underlying T = some (.slice e)) (hc : P.cellsOf T = 1) : Opn P T (Kd.slice e d) (fun xs => xs.length ≤ maxLen ∧ ∀ x ∈ xs, Q x) :=
 ⟨hc.symm, fun hy => by
  obtain ⟨xs, A, c, rfl, hl, hC, hm, hQ⟩ := h.row ht hy
  exact ⟨xs, ⟨A, c, rfl, hl, hC⟩, hm, hQ⟩⟩
/-- The fields of a struct, from place off on. -/
structure OpnF (P : Program) (fs : List Field) (off : Nat) {α : Type} (d : Kd α) (Q : α → Prop) : Prop where
 op : ∀ {H : Type} {enc : TypeId × Value → H} {w : World} {base : Nat} {sp : Nat → Bool} {held : Bool} {n : Nat} {cs : List Value} {xs : List (DataW H × List MemPlace)}, off + d.sz ≤ cs.length → xs.length = fs.length →
  (∀ (i : Nat) (f : Field), fs[i]? = some f → DataW.trod enc P w base sp held n f.type ((cs.drop f.offset).take (P.cellsOf f.type)) = xs[i]?) → ∃ x, d.K w x ((cs.drop off).take d.sz) ∧ Q x
theorem OpnF.one {P : Program} {f : Field} {off : Nat} {α : Type} {d : Kd α} {Q : α → Prop} (h : Opn P f.type d Q) (ho : f.offset = off) : OpnF P [f] off d Q :=
 ⟨fun hl hx hf => by
  have h0 := hf 0 f rfl
  obtain ⟨y, rfl⟩ := List.length_eq_one_iff.1 hx
  obtain ⟨x, hK, hQ⟩ := h.op (h0.trans rfl)
  rw [ho, ← h.sz] at hK
  exact ⟨x, hK, hQ⟩⟩
theorem OpnF.cons {P : Program} {f : Field} {r : List Field} {off : Nat} {α β : Type} {d : Kd α} {e : Kd β} {Q : α → Prop} {R : β → Prop} (h : Opn P f.type d Q) (ho : f.offset = off) (hr : OpnF P r (off + d.sz) e R) :
 OpnF P (f :: r) off (Kd.pair d e) (fun x => Q x.1 ∧ R x.2) :=
 ⟨fun {H enc w base sp held n cs xs} hl hx hf => by
  have hl' : off + (d.sz + e.sz) ≤ cs.length := hl
  match xs, hx with
  | y :: ys, hx =>
   obtain ⟨x, hK, hQ⟩ := h.op ((hf 0 f rfl).trans rfl)
   rw [ho, ← h.sz] at hK
   obtain ⟨z, hKz, hR⟩ := hr.op (cs := cs) (xs := ys) (by omega) (by simpa using hx) (fun i g hg => by simpa using hf (i + 1) g (by simpa using hg))
   refine ⟨(x, z), ⟨_, _, ?_, hK, hKz⟩, hQ, hR⟩
   show (cs.drop off).take (d.sz + e.sz) = _
   rw [List.take_add, List.drop_drop]⟩
theorem Opn.struct {P : Program} {T : Nat} {fs : Array Field} {α : Type} {d : Kd α} {Q : α → Prop} (ht : P.underlying T = some (.struct fs)) (h : OpnF P fs.toList 0 d Q) (hc : P.cellsOf T = d.sz) : Opn P T d Q :=
 ⟨hc.symm, fun hy => by
  obtain ⟨xs, n, _, _, hl, hlen, hf⟩ := DataW.trod_struct ht hy
  obtain ⟨x, hK, hQ⟩ := h.op (xs := xs) (by omega) (by simpa using hlen) (fun i f hf' => hf i f (by simpa using hf'))
  rw [List.drop_zero, ← hc, ← hl, List.take_length] at hK
  exact ⟨x, hK, hQ⟩⟩
theorem Opn.iso {P : Program} {T : Nat} {α β : Type} {d : Kd α} {Q : α → Prop} (h : Opn P T d Q) (f : β → α) (g : α → β) (hfg : ∀ a, f (g a) = a) : Opn P T (Kd.iso d f) (fun x => Q (f x)) :=
 ⟨h.sz, fun hy => by
  obtain ⟨x, hK, hQ⟩ := h.op hy
  exact ⟨g x, by show d.K _ (f (g x)) _; rw [hfg]; exact hK, by show Q (f (g x)); rw [hfg]; exact hQ⟩⟩
end Go.Proofs.YtnbohlcibgfjaaaDoor.Gp
end
