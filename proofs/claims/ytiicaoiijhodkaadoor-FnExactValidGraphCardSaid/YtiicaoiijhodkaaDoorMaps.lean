/- A map from strings to ints that the call made: what it holds, as a fact on a world; its laws for a walk. -/
import Derived.Test.YtiicaoiijhodkaaDoorBase
import Derived.Maps.Views
namespace Go.Proofs.YtiicaoiijhodkaaDoor.Gp
open Go.RowKit Go.Maps Go.WideMaps Go.WideElems Go.Proofs.YtiicaoiijhodkaaDoorW.PrintWords

/-! A map from strings to ints that the call made, by what it holds. -/
structure SMap (w : World) (b n : Nat) (f : ByteArray → Option Int) : Prop where mk ::
  (out : ∃ D : DataW Unit, w.ownsMap Tryd.prog 9 (plainElem Tryd.prog 3) b n D ∧ Maps.Tidy D ∧ ∀ s : ByteArray, D.atKey (.string s.data.toList) (.lit (.int .i64 0)) = .lit (.int .i64 ((f s).getD 0)) ∧ Maps.has D (.string s.data.toList) = (f s).isSome)
def upd (f : ByteArray → Option Int) (s : ByteArray) (c : Int) (x : ByteArray) : Option Int := if x = s then some c else f x
theorem data_inj {s t : ByteArray} (h : s.data.toList = t.data.toList) : s = t := by
  cases s with
  | mk a => cases t with
    | mk b => simp only at h; rw [Array.toList_inj.1 h]
theorem SMap.made (w : World) : SMap (w.alloc (.map #[] 0)) w.heap.size 0 (fun _ => none) :=
  ⟨.map [], World.ownsMap_made _ _ _ _, Maps.tidy_empty, fun s => ⟨by simp [DataW.atKey], by simp [Maps.has]⟩⟩
theorem SMap.kept {w w1 : World} {b n : Nat} {f : ByteArray → Option Int} (h : SMap w b n f) {row : Option Nat} (hg : w.grownBy w1 row) (hne : some b ≠ row) : SMap w1 b n f := by
  obtain ⟨D, ho, ht, hf⟩ := h.out
  exact ⟨D, ho.kept hg hne, ht, hf⟩
theorem SMap.lt {w : World} {b n : Nat} {f : ByteArray → Option Int} (h : SMap w b n f) : b < w.heap.size := by
  obtain ⟨D, ho, ht, hf⟩ := h.out
  exact ho.lt
theorem SMap.below {w w1 : World} {b n : Nat} {f : ByteArray → Option Int} (h : SMap w b n f) (hb : Below w.heap.size w w1) : SMap w1 b n f := h.kept (grown_of_below hb none) (by simp)
theorem SMap.alloc {w : World} {b n : Nat} {f : ByteArray → Option Int} (h : SMap w b n f) (o : Obj) : SMap (w.alloc o) b n f := h.below ((Below.refl _ _).alloc (Nat.le_refl _) o)
theorem SMap.drewN {w : World} {b n : Nat} {f : ByteArray → Option Int} (h : SMap w b n f) (m : Nat) : SMap (w.drewN m) b n f := h.below (pw_below_drewN (Below.refl _ _) m)
theorem SMap.mono {w : World} {b n m : Nat} {f : ByteArray → Option Int} (h : SMap w b n f) (hm : n ≤ m) : SMap w b m f := by
  obtain ⟨D, ho, ht, hf⟩ := h.out
  exact ⟨D, ho.mono hm, ht, hf⟩
theorem SMap.lookup {w : World} {b n : Nat} {f : ByteArray → Option Int} (h : SMap w b n f) (s : ByteArray) (hs : s.size ≤ maxLen) :
    (Instr.lookup 61 (.map (some b)) (.string s) false).run Tryd.prog w = .ok (.int .i64 ((f s).getD 0)) w := by
  obtain ⟨D, ho, ht, hf⟩ := h.out
  obtain ⟨c, hrun, hat, _⟩ := ho.lookup_int lawS Tryd.underlying61 Tryd.underlying3 (zero3 _) (keyOf_string_mk (s := s) Tryd.underlying9 hs)
  rw [(hf s).1] at hat
  cases hat
  exact hrun
theorem wpList_smap_update {w : World} {ops : Array Oper} {rest : List Oper} {o : Oper} {a : Act} {Q : Exit → Act → World → Prop}
    (hg : o.guard = none) (m x y : Operand) (hop : o.op = Op.mapUpdate 61 m x y) {b n : Nat} {f : ByteArray → Option Int}
    (hm : a.eval m = .map (some b)) (h : SMap w b n f) (hn : n < maxLen) (s : ByteArray) (hs : s.size ≤ maxLen) (c : Int) (hx : a.eval x = .string s) (hy : a.eval y = .int .i64 c) (hc : (Lit.int .i64 c).wf = true)
    (hK : ∀ w1, SMap w1 b (n + 1) (upd f s c) → w.grownBy w1 (some b) → wpList Tryd.prog ops Q rest (a.put o.dst undef) w1) :
    wpList Tryd.prog ops Q (o :: rest) a w := by
  obtain ⟨D, ho, ht, hf⟩ := h.out
  refine wpList_mapUpdate_own _ hg m x y 61 hop 9 3 lawS Tryd.underlying61 _ b n _ hm ho hn _ _ _ hx hy (keyOf_string_mk (s := s) Tryd.underlying9 hs) _ [] (plainElem_int Tryd.underlying3 hc) ?_
  intro w1 ho1 hg1
  refine hK w1 ⟨_, ho1, ht.put (by simp [WideAt.IsKeyLit]) _, fun t => ?_⟩ hg1
  unfold upd
  by_cases e : t = s
  · subst e
    rw [if_pos rfl, Maps.atKey_put_same ht.isMap (by simp [WideAt.IsKeyLit]), Maps.has_put_same ht.isMap (by simp [WideAt.IsKeyLit])]
    exact ⟨rfl, rfl⟩
  · rw [if_neg e, Maps.atKey_put_other (fun e2 => e (data_inj (Lit.string.inj e2))), Maps.has_put_other (fun e2 => e (data_inj (Lit.string.inj e2)))]
    exact hf t
end Go.Proofs.YtiicaoiijhodkaaDoor.Gp
