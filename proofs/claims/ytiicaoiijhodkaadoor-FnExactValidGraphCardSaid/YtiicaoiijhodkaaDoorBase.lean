/- Words of this session: what the package variable 'reserved' holds, as a fact on a world that later worlds keep. -/
import Derived.Test.YtiicaoiijhodkaaDoorProg
import Derived.Maps.OwnOps
import Derived.Maps.OwnSet
import Derived.Lib.Hide
import Derived.Test.YtiicaoiijhodkaaDoorWWords
import Derived.Test.YtiicaoiijhodkaaDoorWApart
namespace Go.Proofs.YtiicaoiijhodkaaDoor.Gp
open Go.RowKit Go.Maps Go.WideMaps Go.WideElems Go.Proofs.YtiicaoiijhodkaaDoorW.PrintWords

theorem zero3 (w : World) : (zeroValue 3).run Tryd.prog w = .ok (.int .i64 0) w := by kernel_rfl
theorem lawS : Keyed Tryd.prog 9 := string_keyed Tryd.underlying9
/-- The eleven words, rising. -/
def rwords : List (List UInt8) := [[98, 111, 111, 108], [101, 108, 115, 101], [102, 97, 108, 115, 101], [102, 117, 110], [105, 102], [105, 109, 112, 111, 114, 116], [105, 110, 116], [116, 104, 101, 110], [116, 114, 117, 101], [116, 121, 112, 101], [118, 97, 108]]
def resD {H : Type} : DataW H := .map (rwords.map fun l => (.string l, .lit (.int .i64 1)))
def resB (l : List UInt8) : Bool := rwords.contains l
structure GRes (w : World) : Prop where mk :: (out : ∃ b, w.cell? ⟨0, 0, none⟩ = some (.map (some b)) ∧ w.ownsMap (H := Unit) Tryd.prog 9 (plainElem Tryd.prog 3) b 11 resD)
theorem GRes.below {w w1 : World} (h : GRes w) (hb : Below w.heap.size w w1) : GRes w1 := by
  obtain ⟨b, hc, ho⟩ := h.out
  exact ⟨b, pw_cell_below hb hc, ho.kept (grown_of_below hb none) (by simp)⟩
theorem GRes.drewN {w : World} (h : GRes w) (n : Nat) : GRes (w.drewN n) := h.below (pw_below_drewN (Below.refl _ _) n)
theorem GRes.drew {w : World} (h : GRes w) : GRes w.drew := h.below (below_drew (Below.refl _ _))
theorem GRes.alloc {w : World} (h : GRes w) (o : Obj) : GRes (w.alloc o) := h.below ((Below.refl _ _).alloc (Nat.le_refl _) o)
theorem find_words (l : List UInt8) : ∀ ws : List (List UInt8), (DataW.map (H := Unit) (ws.map fun l => (Lit.string l, DataW.lit (.int .i64 1)))).atKey (.string l) (.lit (.int .i64 0)) = .lit (.int .i64 (if ws.contains l then 1 else 0))
  | [] => by simp [DataW.atKey]
  | x :: ws => by
    have ih := find_words l ws
    unfold DataW.atKey at ih ⊢
    by_cases h : x = l
    · subst h
      simp [Lit.sameKey]
    · have h1 : Lit.sameKey (.string x) (.string l) = false := by simp [Lit.sameKey, h]
      have h2 : (l == x) = false := by simpa using fun e => h e.symm
      simp only [List.map_cons, List.find?_cons, h1, List.contains_cons, h2, Bool.false_or]
      exact ih
theorem res_at (l : List UInt8) : (resD (H := Unit)).atKey (.string l) (.lit (.int .i64 0)) = .lit (.int .i64 (if resB l then 1 else 0)) := find_words l rwords
theorem res_lookup {w : World} {b : Nat} (ho : w.ownsMap (H := Unit) Tryd.prog 9 (plainElem Tryd.prog 3) b 11 resD) (s : ByteArray) (hs : s.size ≤ maxLen) :
    (Instr.lookup 61 (.map (some b)) (.string s) false).run Tryd.prog w = .ok (.int .i64 (if resB s.data.toList then 1 else 0)) w := by
  obtain ⟨c, hrun, hat, _⟩ := ho.lookup_int lawS Tryd.underlying61 Tryd.underlying3 (zero3 _) (keyOf_string_mk (s := s) Tryd.underlying9 hs)
  rw [res_at] at hat
  cases hat
  exact hrun
/-- A good byte of a word, a good name. -/
def wb (b : Int) : Bool := (97 ≤ b && b ≤ 122) || (48 ≤ b && b ≤ 57) || b == 95
def gnB (s : ByteArray) : Bool := decide (1 ≤ s.size ∧ s.size ≤ 12 ∧ resB s.data.toList = false ∧ 97 ≤ bt s 0 ∧ bt s 0 ≤ 122 ∧ ∀ i : Nat, i < s.size → wb (bt s i) = true)
theorem one_R {α : Type} {d : Kd α} {e : Nat} {w : World} {base : Nat} {ok : Nat → Prop} {v : Value} {xs : List α} (h : d.R e w base ok v xs) : v.oneCell' = true := by
  obtain ⟨A, c, rfl⟩ := Kd.R_slice h
  rfl
theorem one_S {α : Type} {d : Kd α} {e : Nat} {w : World} {base : Nat} {ok : Nat → Prop} {v : Value} {xs : List α} (h : d.S e w base ok v xs) : v.oneCell' = true := one_R (Kd.S_R h)
end Go.Proofs.YtiicaoiijhodkaaDoor.Gp
