/- A part of the proof of RowFnExactClaim: each text's theorems that it needs, packed by shake.py, a program of this work; Lean checks them. -/
import Derived.Test.YtnbohlcibgfjaaaDoorClm0
import Derived.Lib.Strings
section
namespace Go.Proofs.YtnbohlcibgfjaaaDoor.Gp
theorem bl_cons (a b : UInt8) (x y : List UInt8) : Op.bytesLess (a :: x) (b :: y) = (decide (a < b) || (a == b && Op.bytesLess x y)) := rfl
theorem bl_irrefl : ∀ x : List UInt8, Op.bytesLess x x = false
 | [] => rfl
 | a :: x => by
  rw [bl_cons, bl_irrefl x]
  simp [UInt8.lt_irrefl]
theorem bl_total : ∀ x y : List UInt8, Op.bytesLess x y = false → Op.bytesLess y x = false → x = y
 | [], [], _, _ => rfl
 | _ :: _, [], _, h => by cases h
 | [], _ :: _, h, _ => by cases h
 | a :: x, b :: y, h, k => by
  rw [bl_cons, Bool.or_eq_false_iff, decide_eq_false_iff_not] at h k
  have e : a = b := by
   apply UInt8.toNat_inj.1
   have h1 : ¬ a.toNat < b.toNat := fun h2 => h.1 (UInt8.lt_iff_toNat_lt.2 h2)
   have h2 : ¬ b.toNat < a.toNat := fun h2 => k.1 (UInt8.lt_iff_toNat_lt.2 h2)
   omega
  subst e
  rw [bl_total x y (by simpa using h.2) (by simpa using k.2)]
theorem toList_inj {s t : ByteArray} (h : s.toList = t.toList) : s = t := by
 rw [Lib.toList_data, Lib.toList_data] at h
 cases s with
 | mk a => cases t with
  | mk b => simp only at h; rw [Array.toList_inj.1 h]
end Go.Proofs.YtnbohlcibgfjaaaDoor.Gp
end
