/- Lists of strings and of ints: measured, copied, compared with themselves. -/
import Derived.Test.YtiicaoiijhodkaaDoorGp5
import Derived.Test.YtiicaoiijhodkaaDoorGp8
import Derived.Test.YtiicaoiijhodkaaDoorGp11
import Derived.Test.YtiicaoiijhodkaaDoorEv
namespace Go.Proofs.YtiicaoiijhodkaaDoor.Gp
open Go.RowKit Go.Proofs.YtiicaoiijhodkaaDoorW.PrintWords

theorem szStringS_ev (l : List ByteArray) (left : Int) (h0 : 0 ≤ left) (h1 : left ≤ 1048576) (hl : l.length ≤ maxLen) (hz : ∀ s ∈ l, s.size ≤ maxLen) :
    ∃ t, Ev (fun k => laws_szStringS.f k l left) t ∧ (t < 0 ∨ (0 ≤ t ∧ t ≤ left ∧ l.length ≤ 1048576 ∧ ∀ s ∈ l, s.size ≤ 1048576)) := by
  unfold maxLen at hl
  unfold laws_szStringS.f
  have e1 : wrap64 (left - (l.length : Int)) = left - l.length := by unfold wrap64; omega
  rw [e1]
  by_cases c1 : left - (l.length : Int) < 0
  · simp only [if_pos c1]
    exact ⟨-1, Ev.now _, .inl (by omega)⟩
  simp only [if_neg c1]
  obtain ⟨t, ht, hev⟩ := sz_loop ByteArray.empty (fun _ s left => some (wrap64 (left - (s.size : Int)))) laws_szStringS.l0 1048576 (fun _ _ _ _ => rfl) (fun s => s.size ≤ maxLen) (fun s => s.size ≤ 1048576)
    (fun s x hx0 hx1 hs => by
      unfold maxLen at hs
      have e2 : wrap64 (x - (s.size : Int)) = x - s.size := by unfold wrap64; omega
      rw [e2]
      by_cases c : x - (s.size : Int) < 0
      · exact ⟨_, Ev.now _, .inl c⟩
      · exact ⟨_, Ev.now _, .inr ⟨by omega, by omega, by omega⟩⟩) l (by omega) hz (left - (l.length : Int)) (by omega) (by omega)
  exact ⟨t, hev, ht.imp id (fun h => ⟨h.1, by omega, by omega, h.2.2⟩)⟩
theorem szIntS_ev (l : List Int) (left : Int) (h0 : 0 ≤ left) (h1 : left ≤ 1048576) (hl : l.length ≤ maxLen) :
    ∃ t, laws_szIntS.f l left = some t ∧ (t < 0 ∨ (0 ≤ t ∧ t ≤ left ∧ l.length ≤ 1048576)) := by
  unfold maxLen at hl
  unfold laws_szIntS.f
  have e1 : wrap64 (left - (l.length : Int)) = left - l.length := by unfold wrap64; omega
  rw [e1]
  by_cases c1 : left - (l.length : Int) < 0
  · rw [if_pos c1]
    exact ⟨-1, rfl, .inl (by omega)⟩
  rw [if_neg c1]
  exact ⟨_, rfl, .inr ⟨by omega, by omega, by omega⟩⟩
theorem toStringS_ev (l : List ByteArray) (hl : l.length ≤ 1048576) : Ev (fun k => laws_toStringS.f k l) l := by
  unfold laws_toStringS.f
  simp only [if_pos (show 0 ≤ (l.length : Int) by omega), Int.toNat_natCast, if_pos (show l.length ≤ 17592186044416 by omega)]
  have h := to_loop ByteArray.empty (fun _ s => some s) (fun t => t) laws_toStringS.l0 (fun _ _ _ _ => rfl) (fun s => s) l (fun x _ => ⟨_, Ev.now _, rfl⟩) (by omega) (List.replicate l.length (⟨#[]⟩ : ByteArray)) (by simp)
  rw [List.map_id'] at h
  exact h
theorem toIntS_ev (l : List Int) (hl : l.length ≤ 1048576) : Ev (fun k => laws_toIntS.f k l) l := by
  unfold laws_toIntS.f
  simp only [if_pos (show 0 ≤ (l.length : Int) by omega), Int.toNat_natCast, if_pos (show l.length ≤ 35184372088832 by omega)]
  have h := to_loop 0 (fun _ s => some s) (fun t => t) laws_toIntS.l0 (fun _ _ _ _ => rfl) (fun s => s) l (fun x _ => ⟨_, Ev.now _, rfl⟩) (by omega) (List.replicate l.length 0) (by simp)
  rw [List.map_id'] at h
  exact h
theorem eqStringS_ev (l : List ByteArray) (hl : l.length ≤ 1048576) : Ev (fun k => laws_eqStringS.f k l l) true := by
  unfold laws_eqStringS.f
  simp only [if_true]
  exact eq_loop ByteArray.empty (fun _ x y => some (decide (x.toList = y.toList))) laws_eqStringS.l0 (fun k xs ys i => by simp only [laws_eqStringS.l0, Option.bind_some, decide_eq_true_eq]; rfl) l (fun x _ => Ev.const (by simp)) (by omega)
theorem eqIntS_ev (l : List Int) (hl : l.length ≤ 1048576) : Ev (fun k => laws_eqIntS.f k l l) true := by
  unfold laws_eqIntS.f
  simp only [if_true]
  exact eq_loop 0 (fun _ x y => some (decide (x = y))) laws_eqIntS.l0 (fun k xs ys i => by simp only [laws_eqIntS.l0, Option.bind_some, decide_eq_true_eq]; rfl) l (fun x _ => Ev.const (by simp)) (by omega)
end Go.Proofs.YtiicaoiijhodkaaDoor.Gp
