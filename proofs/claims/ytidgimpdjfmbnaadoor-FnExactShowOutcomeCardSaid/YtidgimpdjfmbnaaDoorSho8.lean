/- A part of the proof of RowFnExactShowOutcome: each text's theorems that it needs, packed by shake.py, a program of this work; Lean checks them. -/
import Derived.Test.YtidgimpdjfmbnaaDoorSho7
import Derived.Maps.Views
import Derived.Maps.OwnSet
import Derived.Maps.StringElems
section
namespace Go.Proofs.YtidgimpdjfmbnaaDoor.Gp
open Go.RowKit Go.Maps Go.WideMaps Go.WideElems Go.Proofs.YtidgimpdjfmbnaaDoorW.PrintWords
set_option linter.unusedVariables false
theorem lawI : Keyed Tryd.prog 3 := int_keyed Tryd.underlying3
theorem zeroS (w : World) : (zeroValue 9).run Tryd.prog w = .ok (.string ⟨#[]⟩) w := by kernel_rfl
theorem okJ_wf {n : Int} (h : okJ n) : (Lit.int .i64 n).wf = true := by
  show (decide (_ ≤ n) && decide (n ≤ _)) = true
  rw [Bool.and_eq_true]
  exact ⟨decide_eq_true h.1, decide_eq_true h.2⟩
theorem data_inj' {s t : ByteArray} (h : s.data.toList = t.data.toList) : s = t := by
  cases s with
  | mk a => cases t with
    | mk b => simp only at h; rw [Array.toList_inj.1 h]
/-- A map from ints to texts that the call made, by what it holds. -/
structure KMap (w : World) (b n : Nat) (f : Int → Option ByteArray) : Prop where mk ::
  (out : ∃ D : DataW Unit, w.ownsMap Tryd.prog 3 (plainElem Tryd.prog 9) b n D ∧ Maps.Tidy D ∧ ∀ s : Int, D.atKey (.int .i64 s) (.lit (.string [])) = .lit (.string ((f s).getD ⟨#[]⟩).data.toList) ∧ Maps.has D (.int .i64 s) = (f s).isSome)
theorem KMap.made (w : World) : KMap (w.alloc (.map #[] 0)) w.heap.size 0 (fun _ => none) :=
  ⟨.map [], World.ownsMap_made _ _ _ _, Maps.tidy_empty, fun s => ⟨by simp [DataW.atKey], by simp [Maps.has]⟩⟩
theorem KMap.keep {w w1 : World} {b n : Nat} {f : Int → Option ByteArray} (h : KMap w b n f) (hb : Below w.heap.size w w1) : KMap w1 b n f := by
  obtain ⟨D, ho, ht, hf⟩ := h.out
  exact ⟨D, ho.kept (grown_of_below hb none) (by simp), ht, hf⟩
theorem KMap.oth {w w1 : World} {b n g : Nat} {f : Int → Option ByteArray} (h : KMap w b n f) (ho : Oth g w w1) (hne : b ≠ g) : KMap w1 b n f := by
  obtain ⟨D, ⟨es, cl, hb, hr⟩, ht, hf⟩ := h.out
  exact ⟨D, ⟨es, cl, ho.2 b _ hb (fun e => hne (Option.some.inj e)) (fun _ _ e => by cases e), hr⟩, ht, hf⟩
theorem KMap.ne {w : World} {b n g t : Nat} {cs : Array Value} {fz : Nat × Nat} {f : Int → Option ByteArray} (h : KMap w b n f) (hg : w.heap[g]? = some (.cells cs t fz)) : b ≠ g := by
  rintro rfl
  obtain ⟨D, ⟨es, cl, hb, hr⟩, ht, hf⟩ := h.out
  rw [hg] at hb
  cases hb
theorem KMap.lookup {w : World} {b n : Nat} {f : Int → Option ByteArray} (h : KMap w b n f) (s : Int) (hs : okJ s) :
    (Instr.lookup 93 (.map (some b)) (.int .i64 s) true).run Tryd.prog w = .ok (.tuple #[.string ((f s).getD ⟨#[]⟩), .bool (f s).isSome]) w := by
  obtain ⟨D, ho, ht, hf⟩ := h.out
  obtain ⟨v, ps, hrun, hv⟩ := ho.look_ok lawI Tryd.underlying93 (zeroS _) (show plainElem (H := Unit) Tryd.prog 9 (.string ⟨#[]⟩) = some (DataW.lit (Lit.string []), []) from plainElem_string Tryd.underlying9 (s := ⟨#[]⟩) (Nat.zero_le _)) (keyOf_int_mk Tryd.underlying3 (okJ_wf hs))
  obtain ⟨x, rfl, hx, _⟩ := plainElem_string_inv Tryd.underlying9 hv
  rw [(hf s).1] at hx
  have h1 : (DataW.lit (Lit.string ((f s).getD ⟨#[]⟩).data.toList) : DataW Unit) = DataW.lit (Lit.string x.data.toList) := congrArg Prod.fst hx
  have h2 : ((f s).getD ⟨#[]⟩).data.toList = x.data.toList := Lit.string.inj (DataW.lit.inj h1)
  rw [hrun, (hf s).2, data_inj' h2]
def updI (f : Int → Option ByteArray) (s : Int) (c : ByteArray) (x : Int) : Option ByteArray := if x = s then some c else f x
theorem wpList_kmap_insert {w : World} {ops : Array Oper} {rest : List Oper} {o : Oper} {a : Act} {Q : Exit → Act → World → Prop}
    (hg : o.guard = none) (m x y : Operand) (hop : o.op = Op.insert 93 m x y) {b n : Nat} {f : Int → Option ByteArray}
    (hm : a.eval m = .map (some b)) (h : KMap w b n f) (hn : n < maxLen) (s : Int) (hs : okJ s) (c : ByteArray) (hc : c.size ≤ maxLen) (hx : a.eval x = .int .i64 s) (hy : a.eval y = .string c)
    (hK : ∀ w1, KMap w1 b (n + 1) (updI f s c) → w.grownBy w1 (some b) → wpList Tryd.prog ops Q rest (a.put o.dst undef) w1) :
    wpList Tryd.prog ops Q (o :: rest) a w := by
  obtain ⟨D, ho, ht, hf⟩ := h.out
  refine wpList_plain hg fun K' hK' => ?_
  obtain ⟨w1, hrun, ho1, ht1⟩ := ho.store lawI Tryd.underlying93 hn (keyOf_int_mk Tryd.underlying3 (okJ_wf hs)) (plainElem_string Tryd.underlying9 hc)
  have hR := hK w1 ⟨_, ho1, ht.put (by simp [WideAt.IsKeyLit]) _, fun t => by
    unfold updI
    by_cases e : t = s
    · subst e
      rw [if_pos rfl, Maps.atKey_put_same ht.isMap (by simp [WideAt.IsKeyLit]), Maps.has_put_same ht.isMap (by simp [WideAt.IsKeyLit])]
      exact ⟨rfl, rfl⟩
    · rw [if_neg e, Maps.atKey_put_other (fun e2 => e (by injection e2)), Maps.has_put_other (fun e2 => e (by injection e2))]
      exact hf t⟩ ht1.grown
  unfold Oper.wp
  simp [execOp, hop, hm, hx, hy, hrun, Result.andThen]
  exact hK' _ _ hR
/-- The three kinds' names. -/
def kindF (k : Int) : Option ByteArray := if k = 3 then some ⟨#[99, 104, 101, 99, 107]⟩ else if k = 2 then some ⟨#[115, 105, 103, 110]⟩ else if k = 1 then some ⟨#[112, 97, 114, 115, 101]⟩ else none
def kindT (k : Int) : ByteArray := (kindF k).getD ⟨#[107, 101, 121]⟩
theorem kindT_some {k : Int} (h : (kindF k).isSome = true) : (kindF k).getD ⟨#[]⟩ = kindT k := by
  unfold kindT
  obtain ⟨x, hx⟩ := Option.isSome_iff_exists.1 h
  rw [hx]
  rfl
theorem kindT_none {k : Int} (h : (kindF k).isSome = false) : (⟨#[107, 101, 121]⟩ : ByteArray) = kindT k := by
  unfold kindT
  cases e : kindF k with
  | none => rfl
  | some x => rw [e] at h; cases h
end Go.Proofs.YtidgimpdjfmbnaaDoor.Gp
end
