/- A part of the proof of RowFnExactShowOutcome: each text's theorems that it needs, packed by shake.py, a program of this work; Lean checks them. -/
import Derived.Test.YtidgimpdjfmbnaaDoorSho2
import Derived.Test.YtidgimpdjfmbnaaDoorSho15
import Derived.KernelRfl
import Derived.Test.YtidgimpdjfmbnaaDoorSho3
import Derived.Test.YtidgimpdjfmbnaaDoorSho6
import Derived.Test.YtidgimpdjfmbnaaDoorSho12
import Derived.Test.YtidgimpdjfmbnaaDoorSho11
import Derived.Test.YtidgimpdjfmbnaaDoorSho4
import Derived.Test.YtidgimpdjfmbnaaDoorSho7
import Derived.Test.YtidgimpdjfmbnaaDoorSho13
import Derived.Test.YtidgimpdjfmbnaaDoorSho10
import Derived.Test.YtidgimpdjfmbnaaDoorSho5
import Derived.Test.YtidgimpdjfmbnaaDoorSho9
import Derived.Test.YtidgimpdjfmbnaaDoorSho8
import Derived.Test.YtidgimpdjfmbnaaDoorSho14
section
namespace Go.Proofs.YtidgimpdjfmbnaaDoor.Gp
open Go.RowKit Go.Proofs.YtidgimpdjfmbnaaDoorW.PrintWords
def q131 (x : S131) : Prop := ((Lit.int .i64 x.f0).wf = true) ∧ (x.f1.size ≤ maxLen)
theorem opn131 : Opn Tryd.prog 131 k131 q131 := Opn.iso (Opn.struct Tryd.underlying131 (OpnF.cons (Opn.int Tryd.underlying3 (by kernel_rfl)) rfl (OpnF.one (Opn.string Tryd.underlying9 (by kernel_rfl)) rfl)) (by kernel_rfl)) _ (fun p => (⟨p.1, p.2⟩ : S131)) (fun _ => rfl)
def q182 (x : S182) : Prop := (q131 x.f0) ∧ (True) ∧ (x.f2.size ≤ maxLen) ∧ ((x.f3.length ≤ maxLen ∧ ∀ y_ ∈ x.f3, q131 y_)) ∧ ((Lit.int .i64 x.f4).wf = true) ∧ ((Lit.int .i64 x.f5).wf = true) ∧ ((Lit.int .i64 x.f6).wf = true) ∧ ((Lit.int .i64 x.f7).wf = true)
theorem opn182 : Opn Tryd.prog 182 k182 q182 := Opn.iso (Opn.struct Tryd.underlying182 (OpnF.cons opn131 rfl (OpnF.cons (Opn.bool Tryd.underlying4 (by kernel_rfl)) rfl (OpnF.cons (Opn.string Tryd.underlying9 (by kernel_rfl)) rfl (OpnF.cons (Opn.slice opn131 Tryd.underlying180 (by kernel_rfl)) rfl (OpnF.cons (Opn.int Tryd.underlying3 (by kernel_rfl)) rfl (OpnF.cons (Opn.int Tryd.underlying3 (by kernel_rfl)) rfl (OpnF.cons (Opn.int Tryd.underlying3 (by kernel_rfl)) rfl (OpnF.one (Opn.int Tryd.underlying3 (by kernel_rfl)) rfl)))))))) (by kernel_rfl)) _ (fun p => (⟨p.1, p.2.1, p.2.2.1, p.2.2.2.1, p.2.2.2.2.1, p.2.2.2.2.2.1, p.2.2.2.2.2.2.1, p.2.2.2.2.2.2.2⟩ : S182)) (fun _ => rfl)
def q133 (x : S133) : Prop := (q131 x.f0) ∧ ((Lit.int .i64 x.f1).wf = true) ∧ ((Lit.int .i64 x.f2).wf = true)
theorem opn133 : Opn Tryd.prog 133 k133 q133 := Opn.iso (Opn.struct Tryd.underlying133 (OpnF.cons opn131 rfl (OpnF.cons (Opn.int Tryd.underlying3 (by kernel_rfl)) rfl (OpnF.one (Opn.int Tryd.underlying3 (by kernel_rfl)) rfl))) (by kernel_rfl)) _ (fun p => (⟨p.1, p.2.1, p.2.2⟩ : S133)) (fun _ => rfl)
def q198 (x : S198) : Prop := ((Lit.int .i64 x.f0).wf = true) ∧ ((Lit.int .i64 x.f1).wf = true)
theorem opn198 : Opn Tryd.prog 198 k198 q198 := Opn.iso (Opn.struct Tryd.underlying198 (OpnF.cons (Opn.int Tryd.underlying3 (by kernel_rfl)) rfl (OpnF.one (Opn.int Tryd.underlying3 (by kernel_rfl)) rfl)) (by kernel_rfl)) _ (fun p => (⟨p.1, p.2⟩ : S198)) (fun _ => rfl)
def q129 (x : S129) : Prop := ((Lit.int .i64 x.f0).wf = true) ∧ (x.f1.size ≤ maxLen) ∧ ((Lit.int .i64 x.f2).wf = true) ∧ (True) ∧ ((x.f4.length ≤ maxLen ∧ ∀ y_ ∈ x.f4, q198 y_))
theorem opn129 : Opn Tryd.prog 129 k129 q129 := Opn.iso (Opn.struct Tryd.underlying129 (OpnF.cons (Opn.int Tryd.underlying3 (by kernel_rfl)) rfl (OpnF.cons (Opn.string Tryd.underlying9 (by kernel_rfl)) rfl (OpnF.cons (Opn.int Tryd.underlying3 (by kernel_rfl)) rfl (OpnF.cons (Opn.bool Tryd.underlying4 (by kernel_rfl)) rfl (OpnF.one (Opn.slice opn198 Tryd.underlying127 (by kernel_rfl)) rfl))))) (by kernel_rfl)) _ (fun p => (⟨p.1, p.2.1, p.2.2.1, p.2.2.2.1, p.2.2.2.2⟩ : S129)) (fun _ => rfl)
end Go.Proofs.YtidgimpdjfmbnaaDoor.Gp
end
section
namespace Go.Proofs.YtidgimpdjfmbnaaDoor.Gp
open Go.RowKit Go.Proofs.YtidgimpdjfmbnaaDoorW.PrintWords
theorem szKey_ev (x : S131) (left : Int) (h0 : 0 ≤ left) (h1 : left ≤ 1048576) (hq : q131 x) :
    ∃ t, laws_szKey.f x.f0 x.f1 left = some t ∧ (t < 0 ∨ (0 ≤ t ∧ t ≤ left ∧ x.f1.size ≤ 1048576)) := by
  have hz := hq.2
  unfold maxLen at hz
  unfold laws_szKey.f
  have e1 : wrap64 (left - (x.f1.size : Int)) = left - x.f1.size := by unfold wrap64; omega
  rw [e1]
  by_cases c1 : left - (x.f1.size : Int) < 0
  · rw [if_pos c1]
    exact ⟨-1, rfl, .inl (by omega)⟩
  rw [if_neg c1]
  exact ⟨_, rfl, .inr ⟨by omega, by omega, by omega⟩⟩
theorem szKeyS_ev (l : List S131) (left : Int) (h0 : 0 ≤ left) (h1 : left ≤ 1048576) (hl : l.length ≤ maxLen) (hz : ∀ s ∈ l, q131 s) :
    ∃ t, Ev (fun k => laws_szKeyS.f k l left) t ∧ (t < 0 ∨ (0 ≤ t ∧ t ≤ left ∧ l.length ≤ 1048576 ∧ ∀ s ∈ l, s.f1.size ≤ 1048576)) := by
  unfold maxLen at hl
  unfold laws_szKeyS.f
  have e1 : wrap64 (left - (l.length : Int)) = left - l.length := by unfold wrap64; omega
  rw [e1]
  by_cases c1 : left - (l.length : Int) < 0
  · simp only [if_pos c1]
    exact ⟨-1, Ev.now _, .inl (by omega)⟩
  simp only [if_neg c1]
  obtain ⟨t, ht, hev⟩ := sz_loop z131 (fun _ s left => laws_szKey.f s.f0 s.f1 left) laws_szKeyS.l0 1048576 (fun _ _ _ _ => rfl) q131 (fun s => s.f1.size ≤ 1048576)
    (fun x left h0 h1 hq => by obtain ⟨t, ht, hc⟩ := szKey_ev x left h0 h1 hq; exact ⟨t, Ev.const ht, hc⟩) l (by omega) hz (left - (l.length : Int)) (by omega) (by omega)
  exact ⟨t, hev, ht.imp id (fun h => ⟨h.1, by omega, by omega, h.2.2⟩)⟩
def convKey (x : S131) : S83 := ⟨x.f0, x.f1⟩
theorem toKeyS_ev (l : List S131) (hl : l.length ≤ 1048576) : Ev (fun k => laws_toKeyS.f k l) (l.map convKey) := by
  unfold laws_toKeyS.f
  simp only [if_pos (show 0 ≤ (l.length : Int) by omega), Int.toNat_natCast, if_pos (show l.length ≤ 11728124029610 by omega)]
  exact to_loop z131 (fun _ s => laws_toKey.f s.f0 s.f1) (fun t => (⟨t.1, t.2⟩ : S83)) laws_toKeyS.l0 (fun _ _ _ _ => rfl) convKey l (fun x _ => ⟨(x.f0, x.f1), Ev.const rfl, rfl⟩) (by omega) _ (by simp)
theorem eqKey_self (x : S83) : laws_eqKey.f x.f0 x.f1 x.f0 x.f1 = some true := by
  unfold laws_eqKey.f
  simp
theorem eqKeyS_ev (l : List S83) (hl : l.length ≤ 1048576) : Ev (fun k => laws_eqKeyS.f k l l) true := by
  unfold laws_eqKeyS.f
  simp only [if_true]
  exact eq_loop z83 (fun _ x y => laws_eqKey.f x.f0 x.f1 y.f0 y.f1) laws_eqKeyS.l0 (fun _ _ _ _ => rfl) l (fun x _ => Ev.const (eqKey_self x)) (by omega)
def smSlot (x : S182) : Prop := x.f0.f1.size ≤ 1048576 ∧ x.f2.size ≤ 1048576 ∧ x.f3.length ≤ 1048576 ∧ ∀ s ∈ x.f3, s.f1.size ≤ 1048576
theorem szSlot_ev (x : S182) (left : Int) (h0 : 0 ≤ left) (h1 : left ≤ 1048576) (hq : q182 x) :
    ∃ t, Ev (fun k => laws_szSlot.f k x.f0.f0 x.f0.f1 x.f1 x.f2 x.f3 x.f4 x.f5 x.f6 x.f7 left) t ∧ (t < 0 ∨ (0 ≤ t ∧ t ≤ left ∧ smSlot x)) := by
  obtain ⟨hk, _, hv, ⟨hl, hz⟩, _⟩ := hq
  unfold laws_szSlot.f
  obtain ⟨t, ht, hc⟩ := szKey_ev x.f0 left h0 h1 hk
  simp only [ht, Option.bind_some]
  by_cases c : t < 0
  · simp only [if_pos c]
    exact ⟨-1, Ev.now _, .inl (by omega)⟩
  obtain ⟨ht0, ht1, hs1⟩ := hc.resolve_left c
  simp only [if_neg c]
  unfold maxLen at hv
  have e1 : wrap64 (t - (x.f2.size : Int)) = t - x.f2.size := by unfold wrap64; omega
  rw [e1]
  by_cases c2 : t - (x.f2.size : Int) < 0
  · simp only [if_pos c2]
    exact ⟨-1, Ev.now _, .inl (by omega)⟩
  simp only [if_neg c2]
  obtain ⟨u, hu, hcu⟩ := szKeyS_ev x.f3 (t - (x.f2.size : Int)) (by omega) (by omega) hl hz
  by_cases cu : u < 0
  · refine ⟨-1, Ev.bind hu ?_, .inl (by omega)⟩
    simp only [if_pos cu]
    exact Ev.now _
  obtain ⟨hu0, hu1, hu2, hu3⟩ := hcu.resolve_left cu
  refine ⟨u, Ev.bind hu ?_, .inr ⟨hu0, by omega, hs1, by omega, hu2, hu3⟩⟩
  simp only [if_neg cu]
  exact Ev.now _
theorem szTable_ev (l : List S182) (left : Int) (h0 : 0 ≤ left) (h1 : left ≤ 1048576) (hl : l.length ≤ maxLen) (hz : ∀ s ∈ l, q182 s) :
    ∃ t, Ev (fun k => laws_szTable.f k l left) t ∧ (t < 0 ∨ (0 ≤ t ∧ t ≤ left ∧ l.length ≤ 1048576 ∧ ∀ s ∈ l, smSlot s)) := by
  unfold maxLen at hl
  unfold laws_szTable.f
  have main : ∃ t, Ev (fun k => laws_szSlotS.f k l left) t ∧ (t < 0 ∨ (0 ≤ t ∧ t ≤ left ∧ l.length ≤ 1048576 ∧ ∀ s ∈ l, smSlot s)) := by
    unfold laws_szSlotS.f
    have e1 : wrap64 (left - (l.length : Int)) = left - l.length := by unfold wrap64; omega
    rw [e1]
    by_cases c1 : left - (l.length : Int) < 0
    · simp only [if_pos c1]
      exact ⟨-1, Ev.now _, .inl (by omega)⟩
    simp only [if_neg c1]
    obtain ⟨t, ht, hev⟩ := sz_loop z182 (fun k s left => laws_szSlot.f k s.f0.f0 s.f0.f1 s.f1 s.f2 s.f3 s.f4 s.f5 s.f6 s.f7 left) laws_szSlotS.l0 1048576 (fun _ _ _ _ => rfl) q182 smSlot szSlot_ev l (by omega) hz (left - (l.length : Int)) (by omega) (by omega)
    exact ⟨t, hev, ht.imp id (fun h => ⟨h.1, by omega, by omega, h.2.2⟩)⟩
  obtain ⟨t, hev, ht⟩ := main
  by_cases c : t < 0
  · refine ⟨-1, Ev.bind hev ?_, .inl (by omega)⟩
    simp only [if_pos c]
    exact Ev.now _
  refine ⟨t, Ev.bind hev ?_, ht⟩
  simp only [if_neg c]
  exact Ev.now _
def convSlot (x : S182) : S187 := ⟨convKey x.f0, x.f1, x.f2, x.f3.map convKey, x.f4, x.f5, x.f6, x.f7⟩
theorem toTable_ev (l : List S182) (hl : l.length ≤ 1048576) (hs : ∀ s ∈ l, smSlot s) : Ev (fun k => laws_toTable.f k l) (l.map convSlot) := by
  unfold laws_toTable.f
  refine Ev.bind (a := l.map convSlot) ?_ (Ev.now _)
  unfold laws_toSlotS.f
  simp only [if_pos (show 0 ≤ (l.length : Int) by omega), Int.toNat_natCast, if_pos (show l.length ≤ 2706490160679 by omega)]
  refine to_loop z182 (fun k s => laws_toSlot.f k s.f0.f0 s.f0.f1 s.f1 s.f2 s.f3 s.f4 s.f5 s.f6 s.f7) (fun b => (⟨(⟨b.1, b.2.1⟩ : S83), b.2.2.1, b.2.2.2.1, b.2.2.2.2.1, b.2.2.2.2.2.1, b.2.2.2.2.2.2.1, b.2.2.2.2.2.2.2.1, b.2.2.2.2.2.2.2.2⟩ : S187)) laws_toSlotS.l0 (fun _ _ _ _ => rfl) convSlot l
    (fun x hx => ⟨(x.f0.f0, x.f0.f1, x.f1, x.f2, x.f3.map convKey, x.f4, x.f5, x.f6, x.f7), ?_, rfl⟩) (by omega) _ (by simp)
  unfold laws_toSlot.f laws_toKey.f
  simp only [Option.bind_some]
  exact Ev.bind (toKeyS_ev _ (hs x hx).2.2.1) (Ev.now _)
def smSlot' (x : S187) : Prop := x.f0.f1.size ≤ 1048576 ∧ x.f2.size ≤ 1048576 ∧ x.f3.length ≤ 1048576 ∧ ∀ s ∈ x.f3, s.f1.size ≤ 1048576
theorem smSlot_conv {l : List S182} (h : ∀ s ∈ l, smSlot s) : ∀ s ∈ l.map convSlot, smSlot' s := fun s hs => by
  obtain ⟨x, hx, rfl⟩ := List.mem_map.1 hs
  obtain ⟨h1, h2, h3, h4⟩ := h x hx
  refine ⟨h1, h2, by show (x.f3.map convKey).length ≤ _; rw [List.length_map]; exact h3, fun s hs => ?_⟩
  obtain ⟨y, hy, rfl⟩ := List.mem_map.1 hs
  exact h4 y hy
theorem eqSlot_ev (x : S187) (h : smSlot' x) : Ev (fun k => laws_eqSlot.f k x.f0.f0 x.f0.f1 x.f1 x.f2 x.f3 x.f4 x.f5 x.f6 x.f7 x.f0.f0 x.f0.f1 x.f1 x.f2 x.f3 x.f4 x.f5 x.f6 x.f7) true := by
  unfold laws_eqSlot.f
  simp only [eqKey_self, Option.bind_some, if_true, bne_self_eq_false, Bool.false_eq_true, if_false]
  refine Ev.bind (eqKeyS_ev _ h.2.2.1) ?_
  simp only [if_true]
  exact Ev.now _
theorem eqTable_ev (l : List S187) (hl : l.length ≤ 1048576) (h : ∀ s ∈ l, smSlot' s) : Ev (fun k => laws_eqTable.f k l l) true := by
  unfold laws_eqTable.f
  refine Ev.bind (a := true) ?_ (by simp only [if_true]; exact Ev.now _)
  unfold laws_eqSlotS.f
  simp only [if_true]
  exact eq_loop z187 (fun k x y => laws_eqSlot.f k x.f0.f0 x.f0.f1 x.f1 x.f2 x.f3 x.f4 x.f5 x.f6 x.f7 y.f0.f0 y.f0.f1 y.f1 y.f2 y.f3 y.f4 y.f5 y.f6 y.f7) laws_eqSlotS.l0 (fun _ _ _ _ => rfl) l (fun x hx => eqSlot_ev x (h x hx)) (by omega)
theorem szDiagS_ev (l : List S198) (left : Int) (h0 : 0 ≤ left) (h1 : left ≤ 1048576) (hl : l.length ≤ maxLen) :
    ∃ t, laws_szDiagS.f l left = some t ∧ (t < 0 ∨ (0 ≤ t ∧ t + l.length ≤ left)) := by
  unfold maxLen at hl
  unfold laws_szDiagS.f
  have e1 : wrap64 (left - (l.length : Int)) = left - l.length := by unfold wrap64; omega
  rw [e1]
  by_cases c1 : left - (l.length : Int) < 0
  · rw [if_pos c1]
    exact ⟨-1, rfl, .inl (by omega)⟩
  rw [if_neg c1]
  exact ⟨_, rfl, .inr ⟨by omega, by omega⟩⟩
def smAns (x : S129) : Prop := x.f1.size ≤ 1048576 ∧ x.f4.length ≤ 1048576
theorem szAnswer_ev (x : S129) (left : Int) (h0 : 0 ≤ left) (h1 : left ≤ 1048576) (hq : q129 x) :
    ∃ t, laws_szAnswer.f x.f0 x.f1 x.f2 x.f3 x.f4 left = some t ∧ (t < 0 ∨ (0 ≤ t ∧ t ≤ left ∧ smAns x)) := by
  obtain ⟨_, hv, _, _, hl, _⟩ := hq
  unfold maxLen at hv
  unfold laws_szAnswer.f
  have e1 : wrap64 (left - (x.f1.size : Int)) = left - x.f1.size := by unfold wrap64; omega
  rw [e1]
  by_cases c1 : left - (x.f1.size : Int) < 0
  · rw [if_pos c1]
    exact ⟨-1, rfl, .inl (by omega)⟩
  rw [if_neg c1]
  obtain ⟨t, ht, hc⟩ := szDiagS_ev x.f4 (left - (x.f1.size : Int)) (by omega) (by omega) hl
  simp only [ht, Option.bind_some]
  by_cases c : t < 0
  · rw [if_pos c]
    exact ⟨-1, rfl, .inl (by omega)⟩
  rw [if_neg c]
  obtain ⟨h2, h3⟩ := hc.resolve_left c
  exact ⟨t, rfl, .inr ⟨h2, by omega, by omega, by omega⟩⟩
theorem szAnswerS_ev (l : List S129) (left : Int) (h0 : 0 ≤ left) (h1 : left ≤ 1048576) (hl : l.length ≤ maxLen) (hz : ∀ s ∈ l, q129 s) :
    ∃ t, Ev (fun k => laws_szAnswerS.f k l left) t ∧ (t < 0 ∨ (0 ≤ t ∧ t ≤ left ∧ l.length ≤ 1048576 ∧ ∀ s ∈ l, smAns s)) := by
  unfold maxLen at hl
  unfold laws_szAnswerS.f
  have e1 : wrap64 (left - (l.length : Int)) = left - l.length := by unfold wrap64; omega
  rw [e1]
  by_cases c1 : left - (l.length : Int) < 0
  · simp only [if_pos c1]
    exact ⟨-1, Ev.now _, .inl (by omega)⟩
  simp only [if_neg c1]
  obtain ⟨t, ht, hev⟩ := sz_loop z129 (fun _ s left => laws_szAnswer.f s.f0 s.f1 s.f2 s.f3 s.f4 left) laws_szAnswerS.l0 1048576 (fun _ _ _ _ => rfl) q129 smAns
    (fun x left h0 h1 hq => by obtain ⟨t, ht, hc⟩ := szAnswer_ev x left h0 h1 hq; exact ⟨t, Ev.const ht, hc⟩) l (by omega) hz (left - (l.length : Int)) (by omega) (by omega)
  exact ⟨t, hev, ht.imp id (fun h => ⟨h.1, by omega, by omega, h.2.2⟩)⟩
def smRan (x : S133) : Prop := x.f0.f1.size ≤ 1048576
theorem szRanS_ev (l : List S133) (left : Int) (h0 : 0 ≤ left) (h1 : left ≤ 1048576) (hl : l.length ≤ maxLen) (hz : ∀ s ∈ l, q133 s) :
    ∃ t, Ev (fun k => laws_szRanS.f k l left) t ∧ (t < 0 ∨ (0 ≤ t ∧ t ≤ left ∧ l.length ≤ 1048576 ∧ ∀ s ∈ l, smRan s)) := by
  unfold maxLen at hl
  unfold laws_szRanS.f
  have e1 : wrap64 (left - (l.length : Int)) = left - l.length := by unfold wrap64; omega
  rw [e1]
  by_cases c1 : left - (l.length : Int) < 0
  · simp only [if_pos c1]
    exact ⟨-1, Ev.now _, .inl (by omega)⟩
  simp only [if_neg c1]
  obtain ⟨t, ht, hev⟩ := sz_loop z133 (fun _ s left => laws_szRan.f s.f0.f0 s.f0.f1 s.f1 s.f2 left) laws_szRanS.l0 1048576 (fun _ _ _ _ => rfl) q133 smRan
    (fun x left h0 h1 hq => by
      obtain ⟨t, ht, hc⟩ := szKey_ev x.f0 left h0 h1 hq.1
      unfold laws_szRan.f
      simp only [ht, Option.bind_some]
      by_cases c : t < 0
      · simp only [if_pos c]
        exact ⟨-1, Ev.now _, .inl (by omega)⟩
      simp only [if_neg c]
      exact ⟨t, Ev.now _, hc⟩) l (by omega) hz (left - (l.length : Int)) (by omega) (by omega)
  exact ⟨t, hev, ht.imp id (fun h => ⟨h.1, by omega, by omega, h.2.2⟩)⟩
def convDiag (x : S198) : S81 := ⟨x.f0, x.f1⟩
def convAns (x : S129) : S77 := ⟨x.f0, x.f1, x.f2, x.f3, x.f4.map convDiag⟩
def convRan (x : S133) : S85 := ⟨convKey x.f0, x.f1, x.f2⟩
theorem toDiagS_ev (l : List S198) (hl : l.length ≤ 1048576) : Ev (fun k => laws_toDiagS.f k l) (l.map convDiag) := by
  unfold laws_toDiagS.f
  simp only [if_pos (show 0 ≤ (l.length : Int) by omega), Int.toNat_natCast, if_pos (show l.length ≤ 17592186044416 by omega)]
  exact to_loop z198 (fun _ s => laws_toDiag.f s.f0 s.f1) (fun t => (⟨t.1, t.2⟩ : S81)) laws_toDiagS.l0 (fun _ _ _ _ => rfl) convDiag l (fun x _ => ⟨(x.f0, x.f1), Ev.const rfl, rfl⟩) (by omega) _ (by simp)
theorem toAnswerS_ev (l : List S129) (hl : l.length ≤ 1048576) (hs : ∀ s ∈ l, smAns s) : Ev (fun k => laws_toAnswerS.f k l) (l.map convAns) := by
  unfold laws_toAnswerS.f
  simp only [if_pos (show 0 ≤ (l.length : Int) by omega), Int.toNat_natCast, if_pos (show l.length ≤ 4398046511104 by omega)]
  refine to_loop z129 (fun k s => laws_toAnswer.f k s.f0 s.f1 s.f2 s.f3 s.f4) (fun t => (⟨t.1, t.2.1, t.2.2.1, t.2.2.2.1, t.2.2.2.2⟩ : S77)) laws_toAnswerS.l0 (fun _ _ _ _ => rfl) convAns l
    (fun x hx => ⟨(x.f0, x.f1, x.f2, x.f3, x.f4.map convDiag), ?_, rfl⟩) (by omega) _ (by simp)
  unfold laws_toAnswer.f
  exact Ev.bind (toDiagS_ev _ (hs x hx).2) (Ev.now _)
theorem toRanS_ev (l : List S133) (hl : l.length ≤ 1048576) : Ev (fun k => laws_toRanS.f k l) (l.map convRan) := by
  unfold laws_toRanS.f
  simp only [if_pos (show 0 ≤ (l.length : Int) by omega), Int.toNat_natCast, if_pos (show l.length ≤ 7036874417766 by omega)]
  exact to_loop z133 (fun _ s => laws_toRan.f s.f0.f0 s.f0.f1 s.f1 s.f2) (fun t => (⟨(⟨t.1, t.2.1⟩ : S83), t.2.2.1, t.2.2.2⟩ : S85)) laws_toRanS.l0 (fun _ _ _ _ => rfl) convRan l (fun x _ => ⟨(x.f0.f0, x.f0.f1, x.f1, x.f2), Ev.const rfl, rfl⟩) (by omega) _ (by simp)
theorem eqDiagS_ev (l : List S81) (hl : l.length ≤ 1048576) : Ev (fun k => laws_eqDiagS.f k l l) true := by
  unfold laws_eqDiagS.f
  simp only [if_true]
  exact eq_loop z81 (fun _ x y => laws_eqDiag.f x.f0 x.f1 y.f0 y.f1) laws_eqDiagS.l0 (fun _ _ _ _ => rfl) l (fun x _ => Ev.const (by unfold laws_eqDiag.f; simp)) (by omega)
theorem eqAnswerS_ev (l : List S77) (hl : l.length ≤ 1048576) (hs : ∀ s ∈ l, s.f4.length ≤ 1048576) : Ev (fun k => laws_eqAnswerS.f k l l) true := by
  unfold laws_eqAnswerS.f
  simp only [if_true]
  refine eq_loop z77 (fun k x y => laws_eqAnswer.f k x.f0 x.f1 x.f2 x.f3 x.f4 y.f0 y.f1 y.f2 y.f3 y.f4) laws_eqAnswerS.l0 (fun _ _ _ _ => rfl) l (fun x hx => ?_) (by omega)
  unfold laws_eqAnswer.f
  simp only [if_true, bne_self_eq_false, Bool.false_eq_true, if_false]
  refine Ev.bind (eqDiagS_ev _ (hs x hx)) ?_
  simp only [if_true]
  exact Ev.now _
theorem eqRanS_ev (l : List S85) (hl : l.length ≤ 1048576) : Ev (fun k => laws_eqRanS.f k l l) true := by
  unfold laws_eqRanS.f
  simp only [if_true]
  exact eq_loop z85 (fun _ x y => laws_eqRan.f x.f0.f0 x.f0.f1 x.f1 x.f2 y.f0.f0 y.f0.f1 y.f1 y.f2) laws_eqRanS.l0 (fun _ _ _ _ => rfl) l (fun x _ => Ev.const (by unfold laws_eqRan.f; rw [eqKey_self]; simp)) (by omega)
end Go.Proofs.YtidgimpdjfmbnaaDoor.Gp
end
section
namespace Go.Proofs.YtidgimpdjfmbnaaDoor.Gp
open Go.RowKit Go.Proofs.YtidgimpdjfmbnaaDoorW.PrintWords
theorem Ev.pos {α : Type} {c : Prop} [Decidable c] {g e : Nat → Option α} {r : α} (h : c) (hr : Ev g r) : Ev (fun k => if c then g k else e k) r := by simp only [if_pos h]; exact hr
theorem Ev.neg {α : Type} {c : Prop} [Decidable c] {g e : Nat → Option α} {r : α} (h : ¬ c) (hr : Ev e r) : Ev (fun k => if c then g k else e k) r := by simp only [if_neg h]; exact hr
theorem up_loop {ρ : Type} (L : Nat → Nat → Option ρ) (n : Nat) (r : ρ) (step : ∀ i, i < n → Ev (fun k => L k (i + 1)) r → Ev (fun k => L k i) r) (fin : Ev (fun k => L k n) r) : Ev (fun k => L k 0) r := by
  have key : ∀ d i, n - i = d → i ≤ n → Ev (fun k => L k i) r := by
    intro d
    induction d with
    | zero =>
      intro i hd hi
      obtain rfl : i = n := by omega
      exact fin
    | succ d ih => exact fun i hd hi => step i (by omega) (ih (i + 1) (by omega) (by omega))
  exact key n 0 (by omega) (Nat.zero_le _)
/-- Bytes as numbers. -/
def bl (l : List UInt8) : List Int := l.map fun b => (b.toNat : Int)
theorem bl_snoc (l : List UInt8) (s : ByteArray) (i : Nat) (h : i < s.size) : bl (l ++ s.data.toList.take i) ++ [bt s i] = bl (l ++ s.data.toList.take (i + 1)) := by
  have h' : i < s.data.toList.length := by rw [data_length]; exact h
  have e : bt s i = ((s.data.toList[i]).toNat : Int) := by
    rw [← rd_bytesOf]
    unfold rd bytesOf
    rw [Int.toNat_natCast, List.getD_eq_getElem?_getD, List.getElem?_eq_getElem (by simpa using h')]
    simp
  rw [List.take_succ_eq_append_getElem h', e]
  simp [bl]
theorem putB (L : List UInt8) (s : ByteArray) (h : L.length + s.size ≤ 140737488355328) : Ev (fun k => spec_l6Put.f k (bl L) s) (bl (L ++ s.data.toList)) := by
  unfold spec_l6Put.f
  have main := up_loop (fun k i => spec_l6Put.l0 k (bl (L ++ s.data.toList.take i)) s (i : Nat)) s.size (bl (L ++ s.data.toList)) ?_ ?_
  · simpa using main
  · intro i hi hr
    refine Ev.shift ?_
    simp only [spec_l6Put.l0]
    refine Ev.pos (by omega) (Ev.pos (by omega) (Ev.pos ?_ ?_))
    · unfold bl
      rw [List.length_map, List.length_append, List.length_take, data_length]
      omega
    · rw [bl_snoc L s i hi, wrap_nat i (by omega)]
      exact hr
  · refine Ev.shift ?_
    simp only [spec_l6Put.l0]
    refine Ev.neg (by omega) ?_
    rw [List.take_of_length_le (by rw [data_length]; omega)]
    exact Ev.now _
theorem digit_fin : ∀ d : Fin 10, (⟨#[48, 49, 50, 51, 52, 53, 54, 55, 56, 57]⟩ : ByteArray).extract d.val (d.val + 1) = ⟨#[UInt8.ofNat (48 + d.val)]⟩ := by decide +kernel
theorem digit_at (d : Nat) (h : d < 10) : (⟨#[48, 49, 50, 51, 52, 53, 54, 55, 56, 57]⟩ : ByteArray).extract d (d + 1) = ⟨#[UInt8.ofNat (48 + d)]⟩ := digit_fin ⟨d, h⟩
def decT (u : Nat) : ByteArray := ⟨(Lib.decDigits u).toArray⟩
theorem decT_big (u : Nat) (h : ¬ u < 10) : decT (u / 10) ++ (⟨#[UInt8.ofNat (48 + u % 10)]⟩ : ByteArray) = decT u := by
  unfold decT
  conv => rhs; rw [Lib.decDigits, dif_neg h]
  apply data_inj0
  simp [ByteArray.data_append]
theorem decT_size (u : Nat) (h : u < 18446744073709551616) : (decT u).size ≤ 20 := by
  show (Lib.decDigits u).toArray.size ≤ 20
  rw [List.size_toArray, Lib.decDigits_length]
  exact Lib.nDigits_le20 u h
theorem showDown (u : Nat) : u ≤ 9223372036854775808 → Ev (fun k => spec_l2ShowDown.f k (-(u : Int))) (decT u) := by
  induction u using Nat.strongRecOn with
  | _ u ih =>
  intro hu
  have e1 : Int.tmod (-(u : Int)) 10 = -((u % 10 : Nat) : Int) := by rw [Int.neg_tmod]; rfl
  have e2 : Int.tdiv (-(u : Int)) 10 = -((u / 10 : Nat) : Int) := by rw [Int.neg_tdiv]; rfl
  have e3 : wrap64 (- -((u % 10 : Nat) : Int)) = ((u % 10 : Nat) : Int) := by unfold wrap64; omega
  have e4 : wrap64 (((u % 10 : Nat) : Int) + 1) = ((u % 10 + 1 : Nat) : Int) := by unfold wrap64; omega
  have e5 : wrap64 (-((u / 10 : Nat) : Int)) = -((u / 10 : Nat) : Int) := by unfold wrap64; omega
  have hd : u % 10 < 10 := Nat.mod_lt _ (by omega)
  refine Ev.shift ?_
  simp only [spec_l2ShowDown.f, e1, e2, e3, e4, e5, Int.toNat_natCast, digit_at _ hd]
  by_cases h : u < 10
  · refine Ev.pos (by omega) (Ev.pos (by omega) (Ev.pos (by omega) (Ev.pos (by omega) ?_)))
    rw [show decT u = ⟨#[UInt8.ofNat (48 + u % 10)]⟩ by unfold decT; rw [Lib.decDigits, dif_pos h, Nat.mod_eq_of_lt h]]
    exact Ev.now _
  · refine Ev.neg (by omega) (Ev.bind (ih (u / 10) (by omega) (by omega)) (Ev.pos (by omega) (Ev.pos (by omega) (Ev.pos (by omega) (Ev.pos ?_ ?_)))))
    · have := decT_size (u / 10) (by omega)
      show (decT (u / 10)).size + 1 ≤ _
      omega
    · rw [decT_big u h]
      exact Ev.now _
theorem specShow (n : Int) (h : okJ n) : Ev (fun k => spec_l2Show.f k n) (numT n) := by
  unfold spec_l2Show.f numT Lib.itoa okJ at *
  by_cases c : n < 0
  · rw [if_pos c]
    refine Ev.pos c ?_
    have e : n = -((n.natAbs : Nat) : Int) := by omega
    have hb := showDown n.natAbs (by omega)
    rw [← e] at hb
    refine Ev.bind hb (Ev.pos ?_ ?_)
    · have := decT_size n.natAbs (by omega)
      omega
    · rw [show (⟨(45 :: Lib.decDigits n.natAbs).toArray⟩ : ByteArray) = (⟨#[45]⟩ : ByteArray) ++ decT n.natAbs by apply data_inj0; simp [decT, ByteArray.data_append]]
      exact Ev.now _
  · rw [if_neg c]
    refine Ev.neg c ?_
    have e : wrap64 (-n) = -((n.toNat : Nat) : Int) := by unfold wrap64; omega
    rw [e]
    exact Ev.bind (showDown n.toNat (by omega)) (Ev.now _)
theorem specKind (k : Int) : spec_l6Kind.f k = some (kindT k) := by
  unfold spec_l6Kind.f kindT kindF
  by_cases h1 : k = 1
  · subst h1; rfl
  by_cases h2 : k = 2
  · subst h2; rfl
  by_cases h3 : k = 3
  · subst h3; rfl
  simp only [if_neg h1, if_neg h2, if_neg h3]
  rfl
theorem kindT_size (k : Int) : (kindT k).size ≤ 5 := by
  unfold kindT kindF
  by_cases h3 : k = 3
  · rw [if_pos h3]; decide
  by_cases h2 : k = 2
  · rw [if_neg h3, if_pos h2]; decide
  by_cases h1 : k = 1
  · rw [if_neg h3, if_neg h2, if_pos h1]; decide
  rw [if_neg h3, if_neg h2, if_neg h1]; decide
end Go.Proofs.YtidgimpdjfmbnaaDoor.Gp
end
section
namespace Go.Proofs.YtidgimpdjfmbnaaDoor.Gp
open Go.RowKit Go.Proofs.YtidgimpdjfmbnaaDoorW.PrintWords
theorem bl_back (l : List UInt8) : strOfNums (bl l) = ⟨l.toArray⟩ := by
  unfold strOfNums bl
  apply data_inj0
  simp [Function.comp_def]
theorem lineL_cons (x : ByteArray) (r : List ByteArray) : lineL (x :: r) = x.data.toList ++ (r.map fun y => 32 :: y.data.toList).flatten ++ [10] := by
  unfold lineL
  rw [List.map_cons, Lib.join_cons]
  unfold Lib.joinTail
  rw [List.map_map]
  rfl
def hdL (a : AnT) : ByteArray := (((((⟨#[97, 110, 115, 119, 101, 114, 32]⟩ : ByteArray) ++ numT a.f0) ++ (⟨#[32]⟩ : ByteArray)) ++ a.f1) ++ (⟨#[32]⟩ : ByteArray)) ++ numT a.f2
def flL (a : AnT) : List UInt8 := if a.f3 = true then [32, 102, 117, 108, 108] else []
def dg1 (d : DgT) : ByteArray := (((⟨#[32]⟩ : ByteArray) ++ numT d.f0) ++ (⟨#[58]⟩ : ByteArray)) ++ numT d.f1
def rnB (r : RaT) : ByteArray := ((((((((⟨#[114, 97, 110, 32]⟩ : ByteArray) ++ kindT r.f0.f0) ++ (⟨#[32]⟩ : ByteArray)) ++ r.f0.f1) ++ (⟨#[32]⟩ : ByteArray)) ++ numT r.f1) ++ (⟨#[32]⟩ : ByteArray)) ++ numT r.f2) ++ (⟨#[10]⟩ : ByteArray)
def enB (a0 a3 a4 a5 : Int) : ByteArray := ((((((((⟨#[101, 110, 100, 32]⟩ : ByteArray) ++ numT a0) ++ (⟨#[32]⟩ : ByteArray)) ++ numT a4) ++ (⟨#[32]⟩ : ByteArray)) ++ numT a3) ++ (⟨#[32]⟩ : ByteArray)) ++ numT a5) ++ (⟨#[10]⟩ : ByteArray)
theorem ansL_eq (a : AnT) : ansL a = ((hdL a).data.toList ++ flL a) ++ (a.f4.map fun d => (dg1 d).data.toList).flatten ++ [10] := by
  unfold ansL ansP ansH
  rw [List.append_assoc, List.cons_append, lineL_cons]
  simp only [List.cons_append, List.nil_append, List.map_cons, List.map_append, List.flatten_cons, List.flatten_append, List.map_map]
  have e : (fun y : ByteArray => 32 :: y.data.toList) ∘ dgT = fun d : DgT => (dg1 d).data.toList := by
    funext d
    simp [dgT, dg1, ByteArray.data_append]
  rw [e]
  unfold hdL flL
  by_cases c : a.f3 = true
  · simp [c, ByteArray.data_append]
  · simp [c, ByteArray.data_append]
theorem ranL_eq (r : RaT) : ranL r = (rnB r).data.toList := by
  unfold ranL ranP rnB
  rw [lineL_cons]
  simp [ByteArray.data_append]
theorem endL_eq (a0 a3 a4 a5 : Int) : lineL (endP a0 a3 a4 a5) = (enB a0 a3 a4 a5).data.toList := by
  unfold endP enB
  rw [lineL_cons]
  simp [ByteArray.data_append]
theorem e7 : (⟨#[97, 110, 115, 119, 101, 114, 32]⟩ : ByteArray).size = 7 := rfl
theorem e4r : (⟨#[114, 97, 110, 32]⟩ : ByteArray).size = 4 := rfl
theorem e4e : (⟨#[101, 110, 100, 32]⟩ : ByteArray).size = 4 := rfl
theorem e1s : (⟨#[32]⟩ : ByteArray).size = 1 := rfl
theorem e1c : (⟨#[58]⟩ : ByteArray).size = 1 := rfl
theorem e1n : (⟨#[10]⟩ : ByteArray).size = 1 := rfl
theorem hdL_size (a : AnT) (h : anOk a) (hn : a.f1.size ≤ 1048576) : (hdL a).size ≤ 1048700 := by
  have h0 := numT_size h.1.1
  have h2 := numT_size h.1.2
  unfold hdL
  simp only [ByteArray.size_append, e7, e1s]
  omega
theorem dg1_size (d : DgT) (h : okJ d.f0 ∧ okJ d.f1) : (dg1 d).size ≤ 44 := by
  have h0 := numT_size h.1
  have h2 := numT_size h.2
  unfold dg1
  simp only [ByteArray.size_append, e1s, e1c]
  omega
theorem rnB_size (r : RaT) (h : raOk r) (hn : r.f0.f1.size ≤ 1048576) : (rnB r).size ≤ 1048700 := by
  have h0 := kindT_size r.f0.f0
  have h1 := numT_size h.2.1
  have h2 := numT_size h.2.2
  unfold rnB
  simp only [ByteArray.size_append, e4r, e1s, e1n]
  omega
theorem enB_size (a0 a3 a4 a5 : Int) (h0 : okJ a0) (h3 : okJ a3) (h4 : okJ a4) (h5 : okJ a5) : (enB a0 a3 a4 a5).size ≤ 100 := by
  have h0 := numT_size h0
  have h3 := numT_size h3
  have h4 := numT_size h4
  have h5 := numT_size h5
  unfold enB
  simp only [ByteArray.size_append, e4e, e1s, e1n]
  omega
theorem flat_bound {α : Type} (f : α → List UInt8) (B : Nat) : ∀ l : List α, (∀ x ∈ l, (f x).length ≤ B) → ((l.map f).flatten).length ≤ l.length * B
  | [], _ => by simp
  | x :: l, h => by
    have h1 := h x (by simp)
    have h2 := flat_bound f B l (fun y hy => h y (by simp [hy]))
    rw [List.map_cons, List.flatten_cons, List.length_append, List.length_cons, Nat.succ_mul]
    omega
theorem ansL_len (a : AnT) (h : anOk a) (hn : a.f1.size ≤ 1048576) (hd : a.f4.length ≤ 1048576) : (ansL a).length ≤ 50331648 := by
  rw [ansL_eq, List.length_append, List.length_append, List.length_append, data_length]
  have h1 := hdL_size a h hn
  have h2 : (flL a).length ≤ 5 := by unfold flL; split <;> simp
  have h3 := flat_bound (fun d : DgT => (dg1 d).data.toList) 44 a.f4 (fun d hd => by rw [data_length]; exact dg1_size d (h.2.2 d hd))
  simp only [List.length_cons, List.length_nil]
  omega
def smA' (a : AnT) : Prop := a.f1.size ≤ 1048576 ∧ a.f4.length ≤ 1048576
theorem show_len (a0 : Int) (l1 : List AnT) (l2 : List RaT) (a3 a4 a5 : Int) (n1 : l1.length ≤ 1048576) (n2 : l2.length ≤ 1048576) (h1 : ∀ a ∈ l1, anOk a ∧ smA' a) (h2 : ∀ r ∈ l2, raOk r ∧ r.f0.f1.size ≤ 1048576) (h0 : okJ a0) (h3 : okJ a3) (h4 : okJ a4) (h5 : okJ a5) : (showL a0 l1 l2 a3 a4 a5).length ≤ 100000000000000 := by
  have b1 := flat_bound ansL 50331648 l1 (fun a ha => ansL_len a (h1 a ha).1 (h1 a ha).2.1 (h1 a ha).2.2)
  have b2 := flat_bound ranL 1048700 l2 (fun r hr => by rw [ranL_eq, data_length]; exact rnB_size r (h2 r hr).1 (h2 r hr).2)
  have b3 := enB_size a0 a3 a4 a5 h0 h3 h4 h5
  unfold showL
  rw [List.length_append, List.length_append, endL_eq, data_length]
  have c1 : l1.length * 50331648 ≤ 1048576 * 50331648 := Nat.mul_le_mul_right _ n1
  have c2 : l2.length * 1048700 ≤ 1048576 * 1048700 := Nat.mul_le_mul_right _ n2
  omega
/-- The diagnoses of one answer, from behind 'full' on, and what follows. -/
theorem spec_diags (a0 : Int) (l1 : List AnT) (l2 : List RaT) (a3 a4 a5 : Int) (l6 : List S187) (x4 : Int) (a : AnT) (M : List UInt8) (res : ByteArray) (hok : ∀ d ∈ a.f4, okJ d.f0 ∧ okJ d.f1) (hn : a.f4.length ≤ 1048576) (hM : (M ++ (a.f4.map fun d => (dg1 d).data.toList).flatten).length < 140737488355328)
    (hr : Ev (fun k => spec_ShowOutcome.l0 k (bl ((M ++ (a.f4.map fun d => (dg1 d).data.toList).flatten) ++ [10])) (wrap64 (x4 + 1)) a0 l1 l2 a3 a4 a5 l6) res) :
    Ev (fun k => spec_ShowOutcome.j1 k (bl M) x4 a0 l1 l2 a3 a4 a5 l6 a.f0 a.f1 a.f2 a.f3 a.f4) res := by
  refine Ev.shift ?_
  simp only [spec_ShowOutcome.j1]
  have main := up_loop (fun k j => spec_ShowOutcome.l1 k (bl (M ++ ((a.f4.take j).map fun d => (dg1 d).data.toList).flatten)) x4 (j : Nat) a0 l1 l2 a3 a4 a5 l6 a.f0 a.f1 a.f2 a.f3 a.f4) a.f4.length res ?_ ?_
  · simpa using main
  · intro j hj hr
    have ho := hok _ (rd_memD a.f4 hj)
    have s0 := numT_size ho.1
    have s1 := numT_size ho.2
    have hle := flat_le (fun d : DgT => (dg1 d).data.toList) a.f4 (j + 1)
    have ht := flat_take (fun d : DgT => (dg1 d).data.toList) a.f4 z81 j hj
    have er : a.f4.getD j z81 = rd_T81 a.f4 (j : Int) := by unfold rd_T81; rw [Int.toNat_natCast]
    rw [er] at ht
    rw [ht, List.length_append, data_length] at hle
    rw [List.length_append] at hM
    refine Ev.shift ?_
    simp only [spec_ShowOutcome.l1]
    refine Ev.pos (by omega) (Ev.pos (by omega) (Ev.bind (specShow _ ho.1) (Ev.pos (by omega) (Ev.pos (by simp only [ByteArray.size_append, e1s]; omega) (Ev.bind (specShow _ ho.2) (Ev.pos (by simp only [ByteArray.size_append, e1s, e1c]; omega) (Ev.bind (putB _ (dg1 (rd_T81 a.f4 (j : Int))) ?_) ?_)))))))
    · rw [List.length_append]
      omega
    · rw [List.append_assoc, ← ht, wrap_nat j (by omega)]
      exact hr
  · refine Ev.shift ?_
    simp only [spec_ShowOutcome.l1]
    rw [List.take_length]
    exact Ev.neg (by omega) (Ev.bind (putB _ ⟨#[10]⟩ (by rw [e1n]; omega)) hr)
theorem spec_ran (a0 : Int) (l1 : List AnT) (l2 : List RaT) (a3 a4 a5 : Int) (l6 : List S187) (M : List UInt8) (hok : ∀ r ∈ l2, raOk r ∧ r.f0.f1.size ≤ 1048576) (hn : l2.length ≤ 1048576) (h0 : okJ a0) (h3 : okJ a3) (h4 : okJ a4) (h5 : okJ a5) (hM : (M ++ (l2.map ranL).flatten).length + (enB a0 a3 a4 a5).size ≤ 140737488355328) :
    Ev (fun k => spec_ShowOutcome.l2 k (bl M) 0 a0 l1 l2 a3 a4 a5 l6) ⟨((M ++ (l2.map ranL).flatten) ++ (enB a0 a3 a4 a5).data.toList).toArray⟩ := by
  have s0 := numT_size h0
  have s3 := numT_size h3
  have s4 := numT_size h4
  have s5 := numT_size h5
  have main := up_loop (fun k j => spec_ShowOutcome.l2 k (bl (M ++ ((l2.take j).map ranL).flatten)) (j : Nat) a0 l1 l2 a3 a4 a5 l6) l2.length ⟨((M ++ (l2.map ranL).flatten) ++ (enB a0 a3 a4 a5).data.toList).toArray⟩ ?_ ?_
  · simpa using main
  · intro j hj hr
    have ho := hok _ (rd_memR l2 hj)
    have q0 := kindT_size (rd_T85 l2 (j : Int)).f0.f0
    have q1 := numT_size ho.1.2.1
    have q2 := numT_size ho.1.2.2
    have q3 := ho.2
    have hle := flat_le ranL l2 (j + 1)
    have ht := takeR l2 j hj
    rw [ht, List.length_append] at hle
    rw [ranL_eq] at ht hle
    rw [data_length] at hle
    rw [List.length_append] at hM
    refine Ev.shift ?_
    simp only [spec_ShowOutcome.l2]
    refine Ev.pos (by omega) (Ev.pos (by omega) (Ev.bind (Ev.const (specKind _)) (Ev.pos (by omega) (Ev.pos (by simp only [ByteArray.size_append, e4r]; omega) (Ev.pos (by simp only [ByteArray.size_append, e4r, e1s]; omega) (Ev.pos (by simp only [ByteArray.size_append, e4r, e1s]; omega) (Ev.bind (specShow _ ho.1.2.1) (Ev.pos (by simp only [ByteArray.size_append, e4r, e1s]; omega) (Ev.pos (by simp only [ByteArray.size_append, e4r, e1s]; omega) (Ev.bind (specShow _ ho.1.2.2) (Ev.pos (by simp only [ByteArray.size_append, e4r, e1s]; omega) (Ev.pos (by simp only [ByteArray.size_append, e4r, e1s]; omega) (Ev.bind (putB _ (rnB (rd_T85 l2 (j : Int))) ?_) ?_)))))))))))))
    · rw [List.length_append]
      omega
    · rw [List.append_assoc, ← ht, wrap_nat j (by omega)]
      exact hr
  · refine Ev.shift ?_
    simp only [spec_ShowOutcome.l2]
    rw [List.take_length]
    refine Ev.neg (by omega) (Ev.bind (specShow _ h0) (Ev.pos (by omega) (Ev.pos (by simp only [ByteArray.size_append, e4e]; omega) (Ev.bind (specShow _ h4) (Ev.pos (by simp only [ByteArray.size_append, e4e, e1s]; omega) (Ev.pos (by simp only [ByteArray.size_append, e4e, e1s]; omega) (Ev.bind (specShow _ h3) (Ev.pos (by simp only [ByteArray.size_append, e4e, e1s]; omega) (Ev.pos (by simp only [ByteArray.size_append, e4e, e1s]; omega) (Ev.bind (specShow _ h5) (Ev.pos (by simp only [ByteArray.size_append, e4e, e1s]; omega) (Ev.pos (by simp only [ByteArray.size_append, e4e, e1s]; omega) (Ev.bind (putB _ (enB a0 a3 a4 a5) hM) ?_)))))))))))))
    rw [← bl_back]
    exact Ev.now _
theorem spec_show (a0 : Int) (l1 : List AnT) (l2 : List RaT) (a3 a4 a5 : Int) (l6 : List S187) (n1 : l1.length ≤ 1048576) (n2 : l2.length ≤ 1048576) (k1 : ∀ a ∈ l1, anOk a ∧ smA' a) (k2 : ∀ r ∈ l2, raOk r ∧ r.f0.f1.size ≤ 1048576) (h0 : okJ a0) (h3 : okJ a3) (h4 : okJ a4) (h5 : okJ a5) :
    Ev (fun k => spec_ShowOutcome.f k a0 l1 l2 a3 a4 a5 l6) ⟨(showL a0 l1 l2 a3 a4 a5).toArray⟩ := by
  have hT := show_len a0 l1 l2 a3 a4 a5 n1 n2 k1 k2 h0 h3 h4 h5
  unfold showL at hT ⊢
  rw [endL_eq] at hT ⊢
  rw [List.length_append, data_length] at hT
  unfold spec_ShowOutcome.f
  have main := up_loop (fun k j => spec_ShowOutcome.l0 k (bl (((l1.take j).map ansL).flatten)) (j : Nat) a0 l1 l2 a3 a4 a5 l6) l1.length ⟨(((l1.map ansL).flatten ++ (l2.map ranL).flatten) ++ (enB a0 a3 a4 a5).data.toList).toArray⟩ ?_ ?_
  · simpa [show bl [] = [] from rfl] using main
  · intro j hj hr
    have ho := k1 _ (rd_memA l1 hj)
    have q1 := numT_size ho.1.1.1
    have q2 := numT_size ho.1.1.2
    have q3 := ho.2.1
    have hle := flat_le ansL l1 (j + 1)
    have ht := takeA l1 j hj
    obtain ⟨s, hs⟩ : ∃ s, s = rd_T77 l1 (j : Int) := ⟨_, rfl⟩
    rw [← hs] at ho q1 q2 q3 ht
    rw [ht, ansL_eq, List.length_append, List.length_append, List.length_append, List.length_append, data_length] at hle
    rw [List.length_append] at hT
    have hT2 : ((l1.take j).map ansL).flatten.length + ((((hdL s).size + (flL s).length) + (s.f4.map fun d => (dg1 d).data.toList).flatten.length) + 1) ≤ 100000000000000 := by simp only [List.length_cons, List.length_nil] at hle; omega
    clear hle
    have hend : Ev (fun k => spec_ShowOutcome.j1 k (bl ((((l1.take j).map ansL).flatten ++ (hdL s).data.toList) ++ flL s)) (j : Nat) a0 l1 l2 a3 a4 a5 l6 s.f0 s.f1 s.f2 s.f3 s.f4) ⟨(((l1.map ansL).flatten ++ (l2.map ranL).flatten) ++ (enB a0 a3 a4 a5).data.toList).toArray⟩ := by
      refine spec_diags a0 l1 l2 a3 a4 a5 l6 (j : Int) s _ _ ho.1.2.2 ho.2.2 ?_ ?_
      · rw [List.length_append, List.length_append, List.length_append, data_length]
        omega
      · rw [wrap_nat j (by omega), show ((((l1.take j).map ansL).flatten ++ (hdL s).data.toList) ++ flL s) ++ (s.f4.map fun d => (dg1 d).data.toList).flatten ++ [10] = ((l1.take (j + 1)).map ansL).flatten by rw [ht, ansL_eq]; simp only [List.append_assoc]]
        exact hr
    refine Ev.shift ?_
    simp only [spec_ShowOutcome.l0, ← hs]
    refine Ev.pos (by omega) (Ev.pos (by omega) (Ev.bind (specShow _ ho.1.1.1) (Ev.pos (by omega) (Ev.pos (by simp only [ByteArray.size_append, e7]; omega) (Ev.pos (by simp only [ByteArray.size_append, e7, e1s]; omega) (Ev.pos (by simp only [ByteArray.size_append, e7, e1s]; omega) (Ev.bind (specShow _ ho.1.1.2) (Ev.pos (by simp only [ByteArray.size_append, e7, e1s]; omega) (Ev.bind (putB _ (hdL s) (by omega)) ?_)))))))))
    by_cases c : s.f3 = true
    · have ef : flL s = (⟨#[32, 102, 117, 108, 108]⟩ : ByteArray).data.toList := by unfold flL; rw [if_pos c]
      have el : (flL s).length = 5 := by rw [ef]; rfl
      rw [ef] at hend
      refine Ev.pos c (Ev.bind (putB _ ⟨#[32, 102, 117, 108, 108]⟩ ?_) hend)
      rw [List.length_append, data_length]
      show _ + 5 ≤ _
      omega
    · have ef : flL s = [] := by unfold flL; rw [if_neg c]
      rw [ef, List.append_nil] at hend
      exact Ev.neg c hend
  · refine Ev.shift ?_
    simp only [spec_ShowOutcome.l0]
    rw [List.take_length]
    exact Ev.neg (by omega) (spec_ran a0 l1 l2 a3 a4 a5 l6 _ k2 n2 h0 h3 h4 h5 (by omega))
end Go.Proofs.YtidgimpdjfmbnaaDoor.Gp
end
section
namespace Go.Proofs.YtidgimpdjfmbnaaDoor.Gp
open Go.RowKit Go.Proofs.YtidgimpdjfmbnaaDoorW.PrintWords
theorem wf_okJ {n : Int} (h : (Lit.int .i64 n).wf = true) : okJ n := by
  have h' : (decide (-9223372036854775808 ≤ n) && decide (n ≤ 9223372036854775807)) = true := h
  rw [Bool.and_eq_true, decide_eq_true_iff, decide_eq_true_iff] at h'
  exact h'
theorem showOutcome_true (a0 : Int) (l1 : List S129) (l2 : List S133) (a3 a4 a5 : Int) (l6 : List S182) (w0 : (Lit.int .i64 a0).wf = true) (hl1 : l1.length ≤ maxLen) (hz1 : ∀ s ∈ l1, q129 s) (hl2 : l2.length ≤ maxLen) (hz2 : ∀ s ∈ l2, q133 s) (w3 : (Lit.int .i64 a3).wf = true) (w4 : (Lit.int .i64 a4).wf = true) (w5 : (Lit.int .i64 a5).wf = true) (hl6 : l6.length ≤ maxLen) (hz6 : ∀ s ∈ l6, q182 s) :
    Ev (fun k => laws_FnExactShowOutcome.f k a0 l1 l2 a3 a4 a5 l6) true := by
  unfold laws_FnExactShowOutcome.f
  have hsz : ∃ t, Ev (fun k => laws_szOutcome.f k a0 l1 l2 a3 a4 a5 l6 1048576) t ∧ (t < 0 ∨ ((l1.length ≤ 1048576 ∧ ∀ s ∈ l1, smAns s) ∧ (l2.length ≤ 1048576 ∧ ∀ s ∈ l2, smRan s) ∧ l6.length ≤ 1048576 ∧ ∀ s ∈ l6, smSlot s)) := by
    unfold laws_szOutcome.f
    obtain ⟨t, ht, hc⟩ := szAnswerS_ev l1 1048576 (by omega) (by omega) hl1 hz1
    by_cases c : t < 0
    · exact ⟨-1, Ev.bind ht (Ev.pos c (Ev.now _)), .inl (by omega)⟩
    obtain ⟨p0, p1, p2⟩ := hc.resolve_left c
    obtain ⟨u, hu, hd⟩ := szRanS_ev l2 t p0 p1 hl2 hz2
    by_cases d : u < 0
    · exact ⟨-1, Ev.bind ht (Ev.neg c (Ev.bind hu (Ev.pos d (Ev.now _)))), .inl (by omega)⟩
    obtain ⟨r0, r1, r2⟩ := hd.resolve_left d
    obtain ⟨v, hv, he⟩ := szTable_ev l6 u r0 (by omega) hl6 hz6
    by_cases e : v < 0
    · exact ⟨-1, Ev.bind ht (Ev.neg c (Ev.bind hu (Ev.neg d (Ev.bind hv (Ev.pos e (Ev.now _)))))), .inl (by omega)⟩
    obtain ⟨s0, s1, s2⟩ := he.resolve_left e
    exact ⟨v, Ev.bind ht (Ev.neg c (Ev.bind hu (Ev.neg d (Ev.bind hv (Ev.neg e (Ev.now _)))))), .inr ⟨p2, r2, s2⟩⟩
  obtain ⟨t, hev, ht⟩ := hsz
  refine Ev.bind hev ?_
  by_cases c : t < 0
  · exact Ev.pos c (Ev.now _)
  obtain ⟨⟨n1, m1⟩, ⟨n2, m2⟩, n6, m6⟩ := ht.resolve_left c
  have k0 := wf_okJ w0
  have k3 := wf_okJ w3
  have k4 := wf_okJ w4
  have k5 := wf_okJ w5
  have hto : Ev (fun k => laws_toOutcome.f k a0 l1 l2 a3 a4 a5 l6) (a0, l1.map convAns, l2.map convRan, a3, a4, a5, l6.map convSlot) := by
    unfold laws_toOutcome.f
    exact Ev.bind (toAnswerS_ev l1 n1 m1) (Ev.bind (toRanS_ev l2 n2) (Ev.bind (toTable_ev l6 n6 m6) (Ev.now _)))
  have g1 : ∀ a ∈ l1.map convAns, anOk a ∧ smA' a := fun a ha => by
    obtain ⟨x, hx, rfl⟩ := List.mem_map.1 ha
    obtain ⟨q0, _, q2, _, _, qd⟩ := hz1 x hx
    have hm := m1 x hx
    refine ⟨⟨⟨wf_okJ q0, wf_okJ q2⟩, ?_, fun d hd => ?_⟩, hm.1, ?_⟩
    · show (x.f4.map convDiag).length ≤ _
      rw [List.length_map]
      have := hm.2
      omega
    · obtain ⟨y, hy, rfl⟩ := List.mem_map.1 hd
      exact ⟨wf_okJ (qd y hy).1, wf_okJ (qd y hy).2⟩
    · show (x.f4.map convDiag).length ≤ _
      rw [List.length_map]
      exact hm.2
  have g2 : ∀ r ∈ l2.map convRan, raOk r ∧ r.f0.f1.size ≤ 1048576 := fun r hr => by
    obtain ⟨x, hx, rfl⟩ := List.mem_map.1 hr
    obtain ⟨q0, q1, q2⟩ := hz2 x hx
    exact ⟨⟨wf_okJ q0.1, wf_okJ q1, wf_okJ q2⟩, m2 x hx⟩
  have n1' : (l1.map convAns).length ≤ 1048576 := by rw [List.length_map]; exact n1
  have n2' : (l2.map convRan).length ≤ 1048576 := by rw [List.length_map]; exact n2
  have hlen := show_len a0 (l1.map convAns) (l2.map convRan) a3 a4 a5 n1' n2' g1 g2 k0 k3 k4 k5
  have himp : impl_ShowOutcome.f a0 (l1.map convAns) (l2.map convRan) a3 a4 a5 (l6.map convSlot) = some ⟨(showL a0 (l1.map convAns) (l2.map convRan) a3 a4 a5).toArray⟩ := by
    unfold impl_ShowOutcome.f
    exact if_pos ⟨by omega, ⟨by omega, fun a ha => (g1 a ha).1⟩, ⟨by omega, fun r hr => (g2 r hr).1⟩, k0, k3, k4, k5⟩
  refine Ev.neg c (Ev.bind hto (Ev.bind (spec_show a0 (l1.map convAns) (l2.map convRan) a3 a4 a5 (l6.map convSlot) n1' n2' g1 g2 k0 k3 k4 k5) (Ev.bind hto (Ev.bind (Ev.const himp) (Ev.pos rfl (Ev.bind hto (Ev.bind (a := true) ?_ (Ev.pos rfl (Ev.now _)))))))))
  unfold laws_eqOutcome.f
  refine Ev.pos rfl (Ev.bind (eqAnswerS_ev _ n1' (fun a ha => (g1 a ha).2.2)) (Ev.pos rfl (Ev.bind (eqRanS_ev _ n2') (Ev.pos rfl (Ev.pos rfl (Ev.pos rfl (Ev.pos rfl (Ev.bind (eqTable_ev _ (by rw [List.length_map]; exact n6) (smSlot_conv m6)) (Ev.pos rfl (Ev.now _))))))))))
end Go.Proofs.YtidgimpdjfmbnaaDoor.Gp
end
