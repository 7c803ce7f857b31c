/- A part of the proof of RowFnExactRelease: each text's theorems that it needs, packed by shake.py, a program of this work; Lean checks them. -/
import Derived.Test.YtnbohlcibgfjaaaDoorRel3
import Derived.Test.YtnbohlcibgfjaaaDoorRel22
import Derived.KernelRfl
import Derived.Test.YtnbohlcibgfjaaaDoorRel4
import Derived.Test.YtnbohlcibgfjaaaDoorRel5
import Derived.Test.YtnbohlcibgfjaaaDoorRel7
import Derived.Test.YtnbohlcibgfjaaaDoorRel8
import Derived.Test.YtnbohlcibgfjaaaDoorRel10
import Derived.Test.YtnbohlcibgfjaaaDoorRel21
import Derived.Test.YtnbohlcibgfjaaaDoorRel6
import Derived.Test.YtnbohlcibgfjaaaDoorRel17
import Derived.Test.YtnbohlcibgfjaaaDoorRel18
import Derived.Test.YtnbohlcibgfjaaaDoorRel19
import Derived.Test.YtnbohlcibgfjaaaDoorRel9
import Derived.Test.YtnbohlcibgfjaaaDoorRel14
import Derived.Test.YtnbohlcibgfjaaaDoorRel11
import Derived.Test.YtnbohlcibgfjaaaDoorRel13
import Derived.Test.YtnbohlcibgfjaaaDoorRel12
import Derived.Test.YtnbohlcibgfjaaaDoorRel15
import Derived.Test.YtnbohlcibgfjaaaDoorRel16
section
namespace Go.Proofs.YtnbohlcibgfjaaaDoor.Gp
open Go.RowKit Go.Proofs.YtnbohlcibgfjaaaDoorW.PrintWords
def q26 (x : S26) : Prop := ((Lit.int .i64 x.f0).wf = true) ∧ (x.f1.size ≤ maxLen)
theorem opn26 : Opn Tryd.prog 26 k26 q26 := Opn.iso (Opn.struct Tryd.underlying26 (OpnF.cons (Opn.int Tryd.underlying3 (by kernel_rfl)) rfl (OpnF.one (Opn.string Tryd.underlying9 (by kernel_rfl)) rfl)) (by kernel_rfl)) _ (fun p => (⟨p.1, p.2⟩ : S26)) (fun _ => rfl)
def q154 (x : S154) : Prop := (q26 x.f0) ∧ (True) ∧ (x.f2.size ≤ maxLen) ∧ ((x.f3.length ≤ maxLen ∧ ∀ y_ ∈ x.f3, q26 y_)) ∧ ((Lit.int .i64 x.f4).wf = true) ∧ ((Lit.int .i64 x.f5).wf = true) ∧ ((Lit.int .i64 x.f6).wf = true) ∧ ((Lit.int .i64 x.f7).wf = true)
theorem opn154 : Opn Tryd.prog 154 k154 q154 := Opn.iso (Opn.struct Tryd.underlying154 (OpnF.cons opn26 rfl (OpnF.cons (Opn.bool Tryd.underlying4 (by kernel_rfl)) rfl (OpnF.cons (Opn.string Tryd.underlying9 (by kernel_rfl)) rfl (OpnF.cons (Opn.slice opn26 Tryd.underlying56 (by kernel_rfl)) rfl (OpnF.cons (Opn.int Tryd.underlying3 (by kernel_rfl)) rfl (OpnF.cons (Opn.int Tryd.underlying3 (by kernel_rfl)) rfl (OpnF.cons (Opn.int Tryd.underlying3 (by kernel_rfl)) rfl (OpnF.one (Opn.int Tryd.underlying3 (by kernel_rfl)) rfl)))))))) (by kernel_rfl)) _ (fun p => (⟨p.1, p.2.1, p.2.2.1, p.2.2.2.1, p.2.2.2.2.1, p.2.2.2.2.2.1, p.2.2.2.2.2.2.1, p.2.2.2.2.2.2.2⟩ : S154)) (fun _ => rfl)
theorem szKey_ev (x : S26) (left : Int) (h0 : 0 ≤ left) (h1 : left ≤ 1048576) (hq : q26 x) :
 ∃ t, laws_szKey.f x.f0 x.f1 left = some t ∧ (t < 0 ∨ (0 ≤ t ∧ t ≤ left ∧ x.f1.size ≤ 1048576)) := by
 have hz := hq.2
 unfold maxLen at hz
 unfold laws_szKey.f
 have e1 : wrap64 (left - (x.f1.size : Int)) = left - x.f1.size := by unfold wrap64; omega
 rw [e1]
 by_cases c1 : left - (x.f1.size : Int) < 0
 · rw [if_pos c1]
   exact ⟨-1, rfl, .inl (by omega)⟩
 rw [if_neg c1]
 exact ⟨_, rfl, .inr ⟨by omega, by omega, by omega⟩⟩
theorem szKeyS_ev (l : List S26) (left : Int) (h0 : 0 ≤ left) (h1 : left ≤ 1048576) (hl : l.length ≤ maxLen) (hz : ∀ s ∈ l, q26 s) :
 ∃ t, Ev (fun k => laws_szKeyS.f k l left) t ∧ (t < 0 ∨ (0 ≤ t ∧ t ≤ left ∧ l.length ≤ 1048576 ∧ ∀ s ∈ l, s.f1.size ≤ 1048576)) := by
 unfold maxLen at hl
 unfold laws_szKeyS.f
 have e1 : wrap64 (left - (l.length : Int)) = left - l.length := by unfold wrap64; omega
 rw [e1]
 by_cases c1 : left - (l.length : Int) < 0
 · simp only [if_pos c1]
   exact ⟨-1, Ev.now _, .inl (by omega)⟩
 simp only [if_neg c1]
 obtain ⟨t, ht, hev⟩ := sz_loop z26 (fun _ s left => laws_szKey.f s.f0 s.f1 left) laws_szKeyS.l0 1048576 (fun _ _ _ _ => rfl) q26 (fun s => s.f1.size ≤ 1048576)
  (fun x left h0 h1 hq => by obtain ⟨t, ht, hc⟩ := szKey_ev x left h0 h1 hq; exact ⟨t, Ev.const ht, hc⟩) l (by omega) hz (left - (l.length : Int)) (by omega) (by omega)
 exact ⟨t, hev, ht.imp id (fun h => ⟨h.1, by omega, by omega, h.2.2⟩)⟩
def convKey (x : S26) : S29 := ⟨x.f0, x.f1⟩
theorem toKeyS_ev (l : List S26) (hl : l.length ≤ 1048576) : Ev (fun k => laws_toKeyS.f k l) (l.map convKey) := by
 unfold laws_toKeyS.f
 simp only [if_pos (show 0 ≤ (l.length : Int) by omega), Int.toNat_natCast, if_pos (show l.length ≤ 11728124029610 by omega)]
 exact to_loop z26 (fun _ s => laws_toKey.f s.f0 s.f1) (fun t => (⟨t.1, t.2⟩ : S29)) laws_toKeyS.l0 (fun _ _ _ _ => rfl) convKey l (fun x _ => ⟨(x.f0, x.f1), Ev.const rfl, rfl⟩) (by omega) _ (by simp)
theorem eqKey_self (x : S29) : laws_eqKey.f x.f0 x.f1 x.f0 x.f1 = some true := by
 unfold laws_eqKey.f
 simp
theorem eqKeyS_ev (l : List S29) (hl : l.length ≤ 1048576) : Ev (fun k => laws_eqKeyS.f k l l) true := by
 unfold laws_eqKeyS.f
 simp only [if_true]
 exact eq_loop z29 (fun _ x y => laws_eqKey.f x.f0 x.f1 y.f0 y.f1) laws_eqKeyS.l0 (fun _ _ _ _ => rfl) l (fun x _ => Ev.const (eqKey_self x)) (by omega)
theorem specKeyOk (x : S29) : Ev (fun k => spec_l4KeyOk.f k x.f0 x.f1) (kyB x) := by
 unfold spec_l4KeyOk.f kyB
 by_cases h1 : x.f0 = 1
 · simp only [if_pos h1]
   rw [decide_eq_true (by omega), Bool.true_and]
   exact Ev.bind (specGood _) (Ev.now _)
 simp only [if_neg h1]
 by_cases h2 : x.f0 = 2
 · simp only [if_pos h2]
   rw [decide_eq_true (by omega), Bool.true_and]
   exact Ev.bind (specGood _) (Ev.now _)
 simp only [if_neg h2]
 by_cases h3 : x.f0 = 3
 · simp only [if_pos h3]
   rw [decide_eq_true (by omega), Bool.true_and]
   exact Ev.bind (specGood _) (Ev.now _)
 simp only [if_neg h3]
 rw [decide_eq_false (by omega), Bool.false_and]
 exact Ev.now _
theorem specDepsOk (l : List S29) : Ev (fun k => spec_l4DepsOk.f k l) (decide (l.length ≤ 1000) && l.all kyB) := by
 unfold spec_l4DepsOk.f
 by_cases c : (l.length : Int) > 1000
 · simp only [if_pos c]
   rw [decide_eq_false (by omega), Bool.false_and]
   exact Ev.now _
 simp only [if_neg c]
 rw [decide_eq_true (by omega), Bool.true_and]
 refine cont_loop (fun k i => spec_l4DepsOk.l0 k l (i : Nat)) l.length (fun i => kyB (rd_T29 l i)) false (fun _ => some true) ?_ ?_ ?_ _ ?_ ?_
 ·
  intro i hi ho r hr
  refine Ev.shift ?_
  simp only [spec_l4DepsOk.l0, if_pos (show (i : Int) < (l.length : Int) by omega), if_pos (show (0 : Int) ≤ (i : Int) by omega)]
  refine Ev.bind (specKeyOk _) ?_
  simp only [ho, if_true, wrap_nat i (by omega)]
  exact hr
 ·
  intro i hi ho
  refine Ev.shift ?_
  simp only [spec_l4DepsOk.l0, if_pos (show (i : Int) < (l.length : Int) by omega), if_pos (show (0 : Int) ≤ (i : Int) by omega)]
  refine Ev.bind (specKeyOk _) ?_
  simp only [ho, Bool.false_eq_true, if_false]
  exact Ev.now _
 · intro r hr
   refine Ev.shift ?_
   simp only [spec_l4DepsOk.l0, if_neg (show ¬ (l.length : Int) < (l.length : Int) by omega)]
   exact hr
 ·
  intro h
  rw [show l.all kyB = true from List.all_eq_true.2 (fun x hx => by
   obtain ⟨j, hj, rfl⟩ := List.getElem_of_mem hx
   have := h j hj
   unfold rd_T29 at this
   rw [Int.toNat_natCast, List.getD_eq_getElem?_getD, List.getElem?_eq_getElem hj] at this
   exact this)]
  exact Ev.now _
 rintro ⟨i, hi, ho⟩
 rw [Bool.eq_false_iff]
 intro h
 rw [List.all_eq_true.1 h _ (rd_mem_ky l hi)] at ho
 cases ho
/-- One key is before another. -/
def keyLt (a b : S29) : Bool := if a.f0 = b.f0 then ltB a.f1 b.f1 else decide (a.f0 < b.f0)
theorem specKeyLess (a b : S29) (ha : a.f1.size < 9223372036854775807) : Ev (fun k => spec_l4KeyLess.f k a.f0 a.f1 b.f0 b.f1) (keyLt a b) := by
 unfold spec_l4KeyLess.f keyLt
 by_cases h : a.f0 = b.f0
 · simp only [if_pos h]
   exact Ev.bind (specLess _ _ ha) (Ev.now _)
 simp only [if_neg h]
 exact Ev.now _
def smSlot (x : S154) : Prop := x.f0.f1.size ≤ 1048576 ∧ x.f2.size ≤ 1048576 ∧ x.f3.length ≤ 1048576 ∧ ∀ s ∈ x.f3, s.f1.size ≤ 1048576
theorem szSlot_ev (x : S154) (left : Int) (h0 : 0 ≤ left) (h1 : left ≤ 1048576) (hq : q154 x) :
 ∃ t, Ev (fun k => laws_szSlot.f k x.f0.f0 x.f0.f1 x.f1 x.f2 x.f3 x.f4 x.f5 x.f6 x.f7 left) t ∧ (t < 0 ∨ (0 ≤ t ∧ t ≤ left ∧ smSlot x)) := by
 obtain ⟨hk, _, hv, ⟨hl, hz⟩, _⟩ := hq
 unfold laws_szSlot.f
 obtain ⟨t, ht, hc⟩ := szKey_ev x.f0 left h0 h1 hk
 simp only [ht, Option.bind_some]
 by_cases c : t < 0
 · simp only [if_pos c]
   exact ⟨-1, Ev.now _, .inl (by omega)⟩
 obtain ⟨ht0, ht1, hs1⟩ := hc.resolve_left c
 simp only [if_neg c]
 unfold maxLen at hv
 have e1 : wrap64 (t - (x.f2.size : Int)) = t - x.f2.size := by unfold wrap64; omega
 rw [e1]
 by_cases c2 : t - (x.f2.size : Int) < 0
 · simp only [if_pos c2]
   exact ⟨-1, Ev.now _, .inl (by omega)⟩
 simp only [if_neg c2]
 obtain ⟨u, hu, hcu⟩ := szKeyS_ev x.f3 (t - (x.f2.size : Int)) (by omega) (by omega) hl hz
 by_cases cu : u < 0
 · refine ⟨-1, Ev.bind hu ?_, .inl (by omega)⟩
   simp only [if_pos cu]
   exact Ev.now _
 obtain ⟨hu0, hu1, hu2, hu3⟩ := hcu.resolve_left cu
 refine ⟨u, Ev.bind hu ?_, .inr ⟨hu0, by omega, hs1, by omega, hu2, hu3⟩⟩
 simp only [if_neg cu]
 exact Ev.now _
theorem szTable_ev (l : List S154) (left : Int) (h0 : 0 ≤ left) (h1 : left ≤ 1048576) (hl : l.length ≤ maxLen) (hz : ∀ s ∈ l, q154 s) :
 ∃ t, Ev (fun k => laws_szTable.f k l left) t ∧ (t < 0 ∨ (0 ≤ t ∧ t ≤ left ∧ l.length ≤ 1048576 ∧ ∀ s ∈ l, smSlot s)) := by
 unfold maxLen at hl
 unfold laws_szTable.f
 have main : ∃ t, Ev (fun k => laws_szSlotS.f k l left) t ∧ (t < 0 ∨ (0 ≤ t ∧ t ≤ left ∧ l.length ≤ 1048576 ∧ ∀ s ∈ l, smSlot s)) := by
  unfold laws_szSlotS.f
  have e1 : wrap64 (left - (l.length : Int)) = left - l.length := by unfold wrap64; omega
  rw [e1]
  by_cases c1 : left - (l.length : Int) < 0
  · simp only [if_pos c1]
    exact ⟨-1, Ev.now _, .inl (by omega)⟩
  simp only [if_neg c1]
  obtain ⟨t, ht, hev⟩ := sz_loop z154 (fun k s left => laws_szSlot.f k s.f0.f0 s.f0.f1 s.f1 s.f2 s.f3 s.f4 s.f5 s.f6 s.f7 left) laws_szSlotS.l0 1048576 (fun _ _ _ _ => rfl) q154 smSlot szSlot_ev l (by omega) hz (left - (l.length : Int)) (by omega) (by omega)
  exact ⟨t, hev, ht.imp id (fun h => ⟨h.1, by omega, by omega, h.2.2⟩)⟩
 obtain ⟨t, hev, ht⟩ := main
 by_cases c : t < 0
 · refine ⟨-1, Ev.bind hev ?_, .inl (by omega)⟩
   simp only [if_pos c]
   exact Ev.now _
 refine ⟨t, Ev.bind hev ?_, ht⟩
 simp only [if_neg c]
 exact Ev.now _
def convSlot (x : S154) : S32 := ⟨convKey x.f0, x.f1, x.f2, x.f3.map convKey, x.f4, x.f5, x.f6, x.f7⟩
theorem toTable_ev (l : List S154) (hl : l.length ≤ 1048576) (hs : ∀ s ∈ l, smSlot s) : Ev (fun k => laws_toTable.f k l) (l.map convSlot) := by
 unfold laws_toTable.f
 refine Ev.bind (a := l.map convSlot) ?_ (Ev.now _)
 unfold laws_toSlotS.f
 simp only [if_pos (show 0 ≤ (l.length : Int) by omega), Int.toNat_natCast, if_pos (show l.length ≤ 2706490160679 by omega)]
 refine to_loop z154 (fun k s => laws_toSlot.f k s.f0.f0 s.f0.f1 s.f1 s.f2 s.f3 s.f4 s.f5 s.f6 s.f7) (fun b => (⟨(⟨b.1, b.2.1⟩ : S29), b.2.2.1, b.2.2.2.1, b.2.2.2.2.1, b.2.2.2.2.2.1, b.2.2.2.2.2.2.1, b.2.2.2.2.2.2.2.1, b.2.2.2.2.2.2.2.2⟩ : S32)) laws_toSlotS.l0 (fun _ _ _ _ => rfl) convSlot l
  (fun x hx => ⟨(x.f0.f0, x.f0.f1, x.f1, x.f2, x.f3.map convKey, x.f4, x.f5, x.f6, x.f7), ?_, rfl⟩) (by omega) _ (by simp)
 unfold laws_toSlot.f laws_toKey.f
 simp only [Option.bind_some]
 exact Ev.bind (toKeyS_ev _ (hs x hx).2.2.1) (Ev.now _)
def smSlot' (x : S32) : Prop := x.f0.f1.size ≤ 1048576 ∧ x.f2.size ≤ 1048576 ∧ x.f3.length ≤ 1048576 ∧ ∀ s ∈ x.f3, s.f1.size ≤ 1048576
theorem smSlot_conv {l : List S154} (h : ∀ s ∈ l, smSlot s) : ∀ s ∈ l.map convSlot, smSlot' s := fun s hs => by
 obtain ⟨x, hx, rfl⟩ := List.mem_map.1 hs
 obtain ⟨h1, h2, h3, h4⟩ := h x hx
 refine ⟨h1, h2, by show (x.f3.map convKey).length ≤ _; rw [List.length_map]; exact h3, fun s hs => ?_⟩
 obtain ⟨y, hy, rfl⟩ := List.mem_map.1 hs
 exact h4 y hy
theorem eqSlot_ev (x : S32) (h : smSlot' x) : Ev (fun k => laws_eqSlot.f k x.f0.f0 x.f0.f1 x.f1 x.f2 x.f3 x.f4 x.f5 x.f6 x.f7 x.f0.f0 x.f0.f1 x.f1 x.f2 x.f3 x.f4 x.f5 x.f6 x.f7) true := by
 unfold laws_eqSlot.f
 simp only [eqKey_self, Option.bind_some, if_true, bne_self_eq_false, Bool.false_eq_true, if_false]
 refine Ev.bind (eqKeyS_ev _ h.2.2.1) ?_
 simp only [if_true]
 exact Ev.now _
theorem eqTable_ev (l : List S32) (hl : l.length ≤ 1048576) (h : ∀ s ∈ l, smSlot' s) : Ev (fun k => laws_eqTable.f k l l) true := by
 unfold laws_eqTable.f
 refine Ev.bind (a := true) ?_ (by simp only [if_true]; exact Ev.now _)
 unfold laws_eqSlotS.f
 simp only [if_true]
 exact eq_loop z32 (fun k x y => laws_eqSlot.f k x.f0.f0 x.f0.f1 x.f1 x.f2 x.f3 x.f4 x.f5 x.f6 x.f7 y.f0.f0 y.f0.f1 y.f1 y.f2 y.f3 y.f4 y.f5 y.f6 y.f7) laws_eqSlotS.l0 (fun _ _ _ _ => rfl) l (fun x hx => eqSlot_ev x (h x hx)) (by omega)
/-- The text of a mark. -/
def mtL : Nat → Int → ByteArray → ByteArray
 | 0, _, s => (⟨#[109]⟩ : ByteArray) ++ s
 | n + 1, x, s => if x > 0 then mtL n (x / 10) (strOfNums [wrap64 (48 + Int.tmod x 10) % 256] ++ s) else (⟨#[109]⟩ : ByteArray) ++ s
def mt (x : Int) : ByteArray := if x ≤ 0 then (⟨#[109, 48]⟩ : ByteArray) else mtL x.toNat x (⟨#[]⟩ : ByteArray)
theorem markText_loop : ∀ (n : Nat) (x : Int) (s : ByteArray), 0 ≤ x → x ≤ n → s.size + n ≤ 4611686018427387904 → Ev (fun k => laws_markText.l0 k x s) (mtL n x s) := by
 intro n
 induction n with
 | zero =>
  intro x s h0 h1 h2
  refine Ev.shift ?_
  simp only [laws_markText.l0, mtL, if_neg (show ¬ x > 0 by omega), if_pos (show 1 + s.size ≤ 9223372036854775807 by omega)]
  exact Ev.now _
 | succ n ih =>
  intro x s h0 h1 h2
  by_cases c : x > 0
  ·
   have e : (strOfNums [wrap64 (48 + Int.tmod x 10) % 256]).size = 1 := by rw [strOfNums_size]; rfl
   have hd : Int.tdiv x 10 = x / 10 := Int.tdiv_eq_ediv_of_nonneg h0
   have ew : wrap64 (Int.tdiv x 10) = x / 10 := by rw [hd]; unfold wrap64; omega
   have ht := ih (x / 10) (strOfNums [wrap64 (48 + Int.tmod x 10) % 256] ++ s) (by omega) (by omega) (by rw [ByteArray.size_append, e]; omega)
   refine Ev.shift ?_
   simp only [laws_markText.l0, mtL, if_pos c, Option.bind_some, e, if_pos (show 1 + s.size ≤ 9223372036854775807 by omega), ew]
   exact ht
  refine Ev.shift ?_
  simp only [laws_markText.l0, mtL, if_neg c, if_pos (show 1 + s.size ≤ 9223372036854775807 by omega)]
  exact Ev.now _
theorem markText_ev (x : Int) (h : x < 4611686018427387904) : Ev (fun k => laws_markText.f k x) (mt x) := by
 unfold laws_markText.f mt
 by_cases c : x ≤ 0
 · simp only [if_pos c]; exact Ev.now _
 simp only [if_neg c]
 exact markText_loop x.toNat x ⟨#[]⟩ (by omega) (by omega) (by show 0 + _ ≤ _; omega)
theorem wrap_up (x : Int) (h0 : 0 ≤ x) (h1 : x < 4611686018427387904) : wrap64 (x + 1) = x + 1 := by unfold wrap64; omega
/-- Keys, marked from x on. -/
def mkKs : List S29 → Int → List S29
 | [], _ => []
 | _ :: l, x => ⟨x, mt (x + 1)⟩ :: mkKs l (x + 2)
theorem mkKs_length (l : List S29) : ∀ x, (mkKs l x).length = l.length := by
 induction l with
 | nil => intro x; rfl
 | cons a l ih => intro x; simp [mkKs, ih]
theorem rdK (a : List S29) (s : S29) (l : List S29) : rd_T29 (a ++ s :: l) (a.length : Int) = s := by
 unfold rd_T29
 rw [Int.toNat_natCast, List.getD_eq_getElem?_getD, List.getElem?_append_right (Nat.le_refl _)]
 simp
theorem setK {α : Type} (a : List α) (s s' : α) (l : List α) : (a ++ s :: l).set a.length s' = a ++ s' :: l := by
 rw [List.set_append_right _ _ (Nat.le_refl _)]
 simp
theorem markKeyS_ev (l : List S29) : ∀ (a : List S29) (x : Int), 0 ≤ x → x + 2 * l.length < 4611686018427387904 → a.length + l.length < 4611686018427387904 →
 Ev (fun k => laws_markKeyS.l0 k (a ++ l) x (a.length : Int)) (x + 2 * l.length, a ++ mkKs l x) := by
 induction l with
 | nil =>
  intro a x h0 h1 h2
  refine Ev.shift ?_
  simp only [laws_markKeyS.l0, List.append_nil, if_neg (show ¬ (a.length : Int) < (a.length : Int) by omega), mkKs, List.length_nil]
  have e : x + 2 * ((0 : Nat) : Int) = x := by omega
  rw [e]
  exact Ev.now _
 | cons s l ih =>
  intro a x h0 h1 h2
  rw [List.length_cons] at h1 h2
  refine Ev.shift ?_
  have hl : (a.length : Int) < ((a ++ s :: l).length : Int) := by rw [List.length_append, List.length_cons]; omega
  simp only [laws_markKeyS.l0, if_pos hl, if_pos (show (0 : Int) ≤ (a.length : Int) by omega), Option.bind_some, wrap_up x h0 (by omega), wrap_up (x + 1) (by omega) (by omega), wrap_nat a.length (by omega), Int.toNat_natCast, rdK, setK]
  refine Ev.bind (markText_ev (x + 1) (by omega)) ?_
  have := ih (a ++ [⟨x, mt (x + 1)⟩]) (x + 2) (by omega) (by omega) (by simp; omega)
  simp only [List.append_assoc, List.singleton_append, List.length_append, List.length_cons, List.length_nil] at this
  rw [show x + 1 + 1 = x + 2 by omega, List.length_cons, show x + 2 * ((l.length + 1 : Nat) : Int) = x + 2 + 2 * (l.length : Int) by omega]
  exact this
theorem heldKeyS_ev (l : List S29) : ∀ (a : List S29) (x : Int), 0 ≤ x → x + 2 * l.length < 4611686018427387904 → a.length + l.length < 4611686018427387904 →
 Ev (fun k => laws_heldKeyS.l0 k (a ++ mkKs l x) x (a.length : Int)) (x + 2 * l.length) := by
 induction l with
 | nil =>
  intro a x h0 h1 h2
  refine Ev.shift ?_
  simp only [laws_heldKeyS.l0, mkKs, List.append_nil, if_neg (show ¬ (a.length : Int) < (a.length : Int) by omega), List.length_nil]
  have e : x + 2 * ((0 : Nat) : Int) = x := by omega
  rw [e]
  exact Ev.now _
 | cons s l ih =>
  intro a x h0 h1 h2
  rw [List.length_cons] at h1 h2
  refine Ev.shift ?_
  have hl : (a.length : Int) < ((a ++ mkKs (s :: l) x).length : Int) := by rw [List.length_append, mkKs_length, List.length_cons]; omega
  simp only [laws_heldKeyS.l0, if_pos hl, if_pos (show (0 : Int) ≤ (a.length : Int) by omega), wrap_up x h0 (by omega), wrap_up (x + 1) (by omega) (by omega), wrap_nat a.length (by omega)]
  simp only [mkKs, rdK, if_true]
  refine Ev.bind (markText_ev (x + 1) (by omega)) ?_
  simp only [if_true]
  have := ih (a ++ [⟨x, mt (x + 1)⟩]) (x + 2) (by omega) (by omega) (by simp; omega)
  simp only [List.append_assoc, List.singleton_append, List.length_append, List.length_cons, List.length_nil] at this
  rw [show x + 1 + 1 = x + 2 by omega, List.length_cons, show x + 2 * ((l.length + 1 : Nat) : Int) = x + 2 + 2 * (l.length : Int) by omega]
  exact this
/-- A marked slot; slots, marked from x on; the mark behind them. -/
def mkS (s : S32) (x : Int) : S32 := ⟨⟨x, mt (x + 1)⟩, (Int.tmod (x + 2) 3 == 0), mt (x + 3), mkKs s.f3 (x + 4), x + 4 + 2 * s.f3.length, x + 4 + 2 * s.f3.length + 1, x + 4 + 2 * s.f3.length + 2, x + 4 + 2 * s.f3.length + 3⟩
def mkN : List S32 → Int → Int
 | [], x => x
 | s :: l, x => mkN l (x + 4 + 2 * s.f3.length + 4)
def mkSs : List S32 → Int → List S32
 | [], _ => []
 | s :: l, x => mkS s x :: mkSs l (x + 4 + 2 * s.f3.length + 4)
theorem mkSs_length (l : List S32) : ∀ x, (mkSs l x).length = l.length := by
 induction l with
 | nil => intro x; rfl
 | cons a l ih => intro x; simp [mkSs, ih]
theorem mkN_le (l : List S32) : ∀ x, x ≤ mkN l x := by
 induction l with
 | nil => intro x; exact Int.le_refl _
 | cons a l ih => intro x; have := ih (x + 4 + 2 * a.f3.length + 4); unfold mkN; omega
theorem mkN_lt (l : List S32) (h : ∀ s ∈ l, s.f3.length ≤ 1048576) : ∀ x, mkN l x ≤ x + 2097160 * l.length := by
 induction l with
 | nil => intro x; simp [mkN]
 | cons a l ih =>
  intro x
  have h1 := ih (fun s hs => h s (List.mem_cons_of_mem _ hs)) (x + 4 + 2 * a.f3.length + 4)
  have h2 := h a (List.mem_cons_self ..)
  unfold mkN
  rw [List.length_cons]
  omega
theorem rdS (a : List S32) (s : S32) (l : List S32) : rd_T32 (a ++ s :: l) (a.length : Int) = s := by
 unfold rd_T32
 rw [Int.toNat_natCast, List.getD_eq_getElem?_getD, List.getElem?_append_right (Nat.le_refl _)]
 simp
theorem mkSl_ev (s : S32) (x : Int) (h0 : 0 ≤ x) (h1 : x + 4 + 2 * s.f3.length + 4 < 4611686018427387904) (h2 : s.f3.length < 4611686018427387904) : Ev (fun k => mkSl k s x) (x + 4 + 2 * s.f3.length + 4, mkS s x) := by
 unfold mkSl mX
 simp only [wrap_up x h0 (by omega), wrap_up (x + 1) (by omega) (by omega), wrap_up (x + 1 + 1) (by omega) (by omega), wrap_up (x + 1 + 1 + 1) (by omega) (by omega)]
 refine Ev.bind (markText_ev (x + 1) (by omega)) ?_
 refine Ev.bind (markText_ev (x + 1 + 1 + 1) (by omega)) ?_
 have hk : Ev (fun k => laws_markKeyS.l0 k s.f3 (x + 4) 0) (x + 4 + 2 * s.f3.length, mkKs s.f3 (x + 4)) := by simpa using markKeyS_ev s.f3 [] (x + 4) (by omega) (by omega) (by simpa using h2)
 have hk' : Ev (fun k => laws_markKeyS.f k s.f3 (x + 1 + 1 + 1 + 1)) (x + 4 + 2 * s.f3.length, mkKs s.f3 (x + 4)) := by
  unfold laws_markKeyS.f
  rw [show x + 1 + 1 + 1 + 1 = x + 4 by omega]
  exact hk
 refine Ev.bind hk' (Ev.const ?_)
 simp only [wrap_up (x + 4 + 2 * s.f3.length) (by omega) (by omega), wrap_up (x + 4 + 2 * s.f3.length + 1) (by omega) (by omega), wrap_up (x + 4 + 2 * s.f3.length + 1 + 1) (by omega) (by omega), wrap_up (x + 4 + 2 * s.f3.length + 1 + 1 + 1) (by omega) (by omega)]
 unfold mkS
 rw [show x + 1 + 1 + 1 = x + 3 by omega, show x + 1 + 1 = x + 2 by omega, show x + 4 + 2 * (s.f3.length : Int) + 1 + 1 + 1 + 1 = x + 4 + 2 * s.f3.length + 4 by omega, show x + 4 + 2 * (s.f3.length : Int) + 1 + 1 + 1 = x + 4 + 2 * s.f3.length + 3 by omega, show x + 4 + 2 * (s.f3.length : Int) + 1 + 1 = x + 4 + 2 * s.f3.length + 2 by omega]
theorem markSlotS_ev (l : List S32) (hs : ∀ s ∈ l, s.f3.length ≤ 1048576) : ∀ (a : List S32) (x : Int), 0 ≤ x → mkN l x < 4611686018427387904 → a.length + l.length < 4611686018427387904 →
 Ev (fun k => laws_markSlotS.l0 k (a ++ l) x a.length) (mkN l x, a ++ mkSs l x) := by
 induction l with
 | nil =>
  intro a x h0 h1 h2
  refine Ev.shift ?_
  simp only [laws_markSlotS.l0, List.append_nil, if_neg (show ¬ a.length < a.length by omega), mkSs, mkN]
  exact Ev.now _
 | cons s l ih =>
  intro a x h0 h1 h2
  rw [List.length_cons] at h2
  refine Ev.shift ?_
  have hl : a.length < (a ++ s :: l).length := by rw [List.length_append, List.length_cons]; omega
  have h3 := hs s (List.mem_cons_self ..)
  have h4 := mkN_le l (x + 4 + 2 * s.f3.length + 4)
  simp only [mkN] at h1
  simp only [laws_markSlotS.l0, if_pos hl, rdS, setK]
  refine Ev.bind (mkSl_ev s x h0 (by omega) (by omega)) ?_
  have := ih (fun s hs' => hs s (List.mem_cons_of_mem _ hs')) (a ++ [mkS s x]) (x + 4 + 2 * s.f3.length + 4) (by omega) h1 (by simp; omega)
  simp only [List.append_assoc, List.singleton_append, List.length_append, List.length_singleton] at this
  exact this
theorem markTable_ev (l : List S32) (hl : l.length ≤ 1048576) (hs : ∀ s ∈ l, smSlot' s) : Ev (fun k => laws_markSlotS.f k l 1) (mkN l 1, mkSs l 1) := by
 unfold laws_markSlotS.f
 simp only [if_pos (show l.length < 4611686018427387904 by omega)]
 have h := mkN_lt l (fun s h => (hs s h).2.2.1) 1
 have := markSlotS_ev l (fun s h => (hs s h).2.2.1) [] 1 (by omega) (by omega) (by simp; omega)
 simpa using this
theorem markTable_pos (l : List S32) : ¬ mkN l 1 < 0 := by have := mkN_le l 1; omega
theorem heldSlotS_ev (l : List S32) (hs : ∀ s ∈ l, s.f3.length ≤ 1048576) : ∀ (a : List S32) (x : Int), 0 ≤ x → mkN l x < 4611686018427387904 → a.length + l.length < 4611686018427387904 →
 Ev (fun k => laws_heldSlotS.l0 k (a ++ mkSs l x) x (a.length : Int)) (mkN l x) := by
 induction l with
 | nil =>
  intro a x h0 h1 h2
  refine Ev.shift ?_
  simp only [laws_heldSlotS.l0, mkSs, mkN, List.append_nil, if_neg (show ¬ (a.length : Int) < (a.length : Int) by omega)]
  exact Ev.now _
 | cons s l ih =>
  intro a x h0 h1 h2
  rw [List.length_cons] at h2
  refine Ev.shift ?_
  have hl : (a.length : Int) < ((a ++ mkSs (s :: l) x).length : Int) := by rw [List.length_append, mkSs_length, List.length_cons]; omega
  have h3 := hs s (List.mem_cons_self ..)
  have h4 := mkN_le l (x + 4 + 2 * s.f3.length + 4)
  simp only [mkN] at h1
  simp only [laws_heldSlotS.l0, if_pos hl, if_pos (show (0 : Int) ≤ (a.length : Int) by omega), wrap_up x h0 (by omega), wrap_up (x + 1) (by omega) (by omega), wrap_up (x + 1 + 1) (by omega) (by omega), wrap_up (x + 1 + 1 + 1) (by omega) (by omega), wrap_nat a.length (by omega)]
  simp only [mkSs, rdS]
  simp only [mkS, if_true]
  refine Ev.bind (markText_ev (x + 1) (by omega)) ?_
  simp only [if_true, show x + 1 + 1 = x + 2 by omega, bne_self_eq_false, Bool.false_eq_true, if_false, show x + 2 + 1 = x + 3 by omega]
  refine Ev.bind (markText_ev (x + 3) (by omega)) ?_
  simp only [if_true]
  have hk : Ev (fun k => laws_heldKeyS.f k (mkKs s.f3 (x + 4)) (x + 3 + 1)) (x + 4 + 2 * s.f3.length) := by
   unfold laws_heldKeyS.f
   rw [show x + 3 + 1 = x + 4 by omega]
   simpa using heldKeyS_ev s.f3 [] (x + 4) (by omega) (by omega) (by simp; omega)
  refine Ev.bind hk ?_
  simp only [if_neg (show ¬ x + 4 + 2 * (s.f3.length : Int) < 0 by omega), if_true, wrap_up (x + 4 + 2 * s.f3.length) (by omega) (by omega), wrap_up (x + 4 + 2 * s.f3.length + 1) (by omega) (by omega), wrap_up (x + 4 + 2 * s.f3.length + 1 + 1) (by omega) (by omega), if_pos (show x + 4 + 2 * (s.f3.length : Int) + 2 = x + 4 + 2 * (s.f3.length : Int) + 1 + 1 by omega), if_pos (show x + 4 + 2 * (s.f3.length : Int) + 3 = x + 4 + 2 * (s.f3.length : Int) + 1 + 1 + 1 by omega), show x + 4 + 2 * (s.f3.length : Int) + 1 + 1 + 1 + 1 = x + 4 + 2 * (s.f3.length : Int) + 4 by omega, show wrap64 (x + 4 + 2 * (s.f3.length : Int) + 4) = x + 4 + 2 * (s.f3.length : Int) + 4 by unfold wrap64; omega]
  have := ih (fun s hs' => hs s (List.mem_cons_of_mem _ hs')) (a ++ [mkS s x]) (x + 4 + 2 * s.f3.length + 4) (by omega) h1 (by simp; omega)
  simp only [List.append_assoc, List.singleton_append, List.length_append, List.length_cons, List.length_nil] at this
  exact this
theorem heldTable_ev (l : List S32) (hl : l.length ≤ 1048576) (hs : ∀ s ∈ l, smSlot' s) : Ev (fun k => laws_heldTable.f k (mkSs l 1) 1) (mkN l 1) := by
 unfold laws_heldTable.f laws_heldSlotS.f
 have h := mkN_lt l (fun s h => (hs s h).2.2.1) 1
 have h2 : Ev (fun k => laws_heldSlotS.l0 k (mkSs l 1) 1 0) (mkN l 1) := by simpa using heldSlotS_ev l (fun s h => (hs s h).2.2.1) [] 1 (by omega) (by omega) (by simp; omega)
 refine Ev.bind h2 ?_
 simp only [if_neg (markTable_pos l)]
 exact Ev.now _
def heldB (s : S32) : Bool := decide (1 ≤ s.f6 ∧ s.f6 ≤ 16 ∧ 1 ≤ s.f7)
/-- A slot is valid. -/
def slB (s : S32) : Bool :=
 kyB s.f0 && (heldB s || decide (s.f6 = 0 ∧ s.f7 = 0)) && (if s.f1 = true then decide (1 ≤ s.f5 ∧ s.f5 ≤ s.f4 ∧ s.f3.length ≤ 1000) && s.f3.all kyB else heldB s && decide (s.f2.size = 0 ∧ s.f3.length = 0 ∧ s.f4 = 0 ∧ s.f5 = 0))
abbrev slotAt (t : List S32) (i : Nat) : S32 := rd_T32 t i
def slotOk (t : List S32) (i : Nat) : Bool := slB (slotAt t i) && (decide (i = 0) || keyLt (slotAt t (i - 1)).f0 (slotAt t i).f0)
/-- A table is valid. -/
def vtB (t : List S32) : Bool := decide (t.length ≤ 4096 ∧ ∀ i : Nat, i < t.length → slotOk t i = true)
theorem slotAt_mem (l : List S32) {k : Nat} (h : k < l.length) : slotAt l k ∈ l := by
 unfold slotAt rd_T32
 rw [Int.toNat_natCast, List.getD_eq_getElem?_getD, List.getElem?_eq_getElem h]
 exact List.getElem_mem h
theorem wrap_pred' (i : Nat) (h : 0 < i) (h2 : i < 9223372036854775807) : wrap64 ((i : Int) - 1) = ((i - 1 : Nat) : Int) := by unfold wrap64; omega
theorem tail_ev (s : S32) : Ev (fun k => if s.f1 = true then (if s.f5 ≥ 1 then (if s.f5 ≤ s.f4 then ((spec_l4DepsOk.f k s.f3).bind fun t304 => (some t304)) else (some false)) else (some false)) else (if heldB s = true then (if (s.f2.size : Int) = 0 then (if (s.f3.length : Int) = 0 then (if s.f4 = 0 then (some (s.f5 == 0)) else (some false)) else (some false)) else (some false)) else (some false)))
 (if s.f1 = true then decide (1 ≤ s.f5 ∧ s.f5 ≤ s.f4 ∧ s.f3.length ≤ 1000) && s.f3.all kyB else heldB s && decide (s.f2.size = 0 ∧ s.f3.length = 0 ∧ s.f4 = 0 ∧ s.f5 = 0)) := by
 cases hh : s.f1
 ·
  simp only [Bool.false_eq_true, if_false]
  cases hb : heldB s
  · simp only [Bool.false_eq_true, if_false, Bool.false_and]
    exact Ev.now _
  simp only [if_true, Bool.true_and]
  by_cases h1 : s.f2.size = 0
  ·
   simp only [if_pos (show (s.f2.size : Int) = 0 by omega)]
   by_cases h2 : s.f3.length = 0
   ·
    simp only [if_pos (show (s.f3.length : Int) = 0 by omega)]
    by_cases h3 : s.f4 = 0
    · simp only [if_pos h3]
      refine Ev.const (congrArg some ?_)
      rw [Bool.eq_iff_iff, beq_iff_eq, decide_eq_true_iff]
      exact ⟨fun h => ⟨h1, h2, h3, h⟩, fun h => h.2.2.2⟩
    simp only [if_neg h3]
    rw [decide_eq_false (fun h => h3 h.2.2.1)]
    exact Ev.now _
   simp only [if_neg (show ¬ (s.f3.length : Int) = 0 by omega)]
   rw [decide_eq_false (fun h => h2 h.2.1)]
   exact Ev.now _
  simp only [if_neg (show ¬ (s.f2.size : Int) = 0 by omega)]
  rw [decide_eq_false (fun h => h1 h.1)]
  exact Ev.now _
 simp only [if_true]
 by_cases h1 : s.f5 ≥ 1
 ·
  simp only [if_pos h1]
  by_cases h2 : s.f5 ≤ s.f4
  · simp only [if_pos h2]
    rw [show decide (1 ≤ s.f5 ∧ s.f5 ≤ s.f4 ∧ s.f3.length ≤ 1000) = decide (s.f3.length ≤ 1000) from decide_eq_decide.2 ⟨fun h => h.2.2, fun h => ⟨h1, h2, h⟩⟩]
    exact Ev.bind (specDepsOk _) (Ev.now _)
  simp only [if_neg h2]
  rw [decide_eq_false (fun h => h2 h.2.1), Bool.false_and]
  exact Ev.now _
 simp only [if_neg h1]
 rw [decide_eq_false (fun h => h1 h.1), Bool.false_and]
 exact Ev.now _
theorem specSlotOk (s : S32) : Ev (fun k => spec_l4SlotOk.f k s.f0.f0 s.f0.f1 s.f1 s.f2 s.f3 s.f4 s.f5 s.f6 s.f7) (slB s) := by
 unfold spec_l4SlotOk.f slB
 refine Ev.bind (specKeyOk s.f0) ?_
 cases hk : kyB s.f0
 · simp only [Bool.false_eq_true, if_false, Bool.false_and]
   exact Ev.now _
 simp only [if_true, Bool.true_and]
 have main : Ev (fun k => spec_l4SlotOk.j0 k (heldB s) s.f0.f0 s.f0.f1 s.f1 s.f2 s.f3 s.f4 s.f5 s.f6 s.f7) ((heldB s || decide (s.f6 = 0 ∧ s.f7 = 0)) && (if s.f1 = true then decide (1 ≤ s.f5 ∧ s.f5 ≤ s.f4 ∧ s.f3.length ≤ 1000) && s.f3.all kyB else heldB s && decide (s.f2.size = 0 ∧ s.f3.length = 0 ∧ s.f4 = 0 ∧ s.f5 = 0))) := by
  refine Ev.shift ?_
  have step : ∀ b : Bool, b = decide (s.f6 = 0 ∧ s.f7 = 0) → Ev (fun k => spec_l4SlotOk.j1 k (heldB s) b s.f0.f0 s.f0.f1 s.f1 s.f2 s.f3 s.f4 s.f5 s.f6 s.f7) ((heldB s || decide (s.f6 = 0 ∧ s.f7 = 0)) && (if s.f1 = true then decide (1 ≤ s.f5 ∧ s.f5 ≤ s.f4 ∧ s.f3.length ≤ 1000) && s.f3.all kyB else heldB s && decide (s.f2.size = 0 ∧ s.f3.length = 0 ∧ s.f4 = 0 ∧ s.f5 = 0))) := fun b hb => by
   rw [← hb]
   refine Ev.shift ?_
   simp only [spec_l4SlotOk.j1]
   have fin : ∀ c : Bool, Ev (fun k => spec_l4SlotOk.j2 k (heldB s) c s.f0.f0 s.f0.f1 s.f1 s.f2 s.f3 s.f4 s.f5 s.f6 s.f7) (if c = true then false else (if s.f1 = true then decide (1 ≤ s.f5 ∧ s.f5 ≤ s.f4 ∧ s.f3.length ≤ 1000) && s.f3.all kyB else heldB s && decide (s.f2.size = 0 ∧ s.f3.length = 0 ∧ s.f4 = 0 ∧ s.f5 = 0))) := fun c => by
    refine Ev.shift ?_
    simp only [spec_l4SlotOk.j2]
    cases c
    · simp only [Bool.false_eq_true, if_false]
      exact tail_ev s
    simp only [if_true]
    exact Ev.now _
   cases hh : heldB s
   · rw [hh] at fin
     simp only [Bool.false_eq_true, if_false, Bool.false_or]
     have := fin (!b)
     cases b
     · exact this
     exact this
   rw [hh] at fin
   simp only [if_true, Bool.true_or, Bool.true_and]
   exact fin false
  simp only [spec_l4SlotOk.j0]
  by_cases h0 : s.f6 = 0
  · simp only [if_pos h0]
    refine step _ ?_
    rw [Bool.eq_iff_iff, beq_iff_eq, decide_eq_true_iff]
    exact ⟨fun h => ⟨h0, h⟩, fun h => h.2⟩
  simp only [if_neg h0]
  exact step _ (decide_eq_false (fun h => h0 h.1)).symm
 by_cases h1 : s.f6 ≥ 1
 ·
  simp only [if_pos h1]
  by_cases h2 : s.f6 ≤ 16
  · simp only [if_pos h2]
    rw [show decide (s.f7 ≥ 1) = heldB s from decide_eq_decide.2 ⟨fun h => ⟨h1, h2, h⟩, fun h => h.2.2⟩]
    exact main
  simp only [if_neg h2]
  rw [show heldB s = false from decide_eq_false (fun h => h2 h.2.1)] at main ⊢
  exact main
 simp only [if_neg h1]
 rw [show heldB s = false from decide_eq_false (fun h => h1 h.1)] at main ⊢
 exact main
theorem specValidTable (t : List S32) (hs : ∀ x ∈ t, smSlot' x) : Ev (fun k => spec_ValidTable.f k t) (vtB t) := by
 unfold spec_ValidTable.f vtB
 by_cases c : (t.length : Int) > 4096
 · simp only [if_pos c]
   rw [decide_eq_false (fun h => by omega)]
   exact Ev.now _
 simp only [if_neg c]
 refine cont_loop (fun k i => spec_ValidTable.l0 k (i : Nat) t) t.length (slotOk t) false (fun _ => some true) ?_ ?_ ?_ _ ?_ ?_
 ·
  intro i hi ho r hr
  unfold slotOk at ho
  rw [Bool.and_eq_true] at ho
  have ho1 : slB (rd_T32 t (i : Int)) = true := ho.1
  refine Ev.shift ?_
  simp only [spec_ValidTable.l0, if_pos (show (i : Int) < (t.length : Int) by omega), if_pos (show (0 : Int) ≤ (i : Int) by omega)]
  refine Ev.bind (specSlotOk _) ?_
  simp only [ho1, if_true]
  by_cases h0 : i = 0
  · subst h0
    simp only [if_neg (show ¬ ((0 : Nat) : Int) > 0 by omega), wrap_nat 0 (by omega)]
    exact hr
  have hlt := ho.2
  rw [decide_eq_false h0, Bool.false_or] at hlt
  simp only [if_pos (show (i : Int) > 0 by omega), wrap_pred' i (by omega) (by omega), if_pos (show (0 : Int) ≤ ((i - 1 : Nat) : Int) by omega), if_pos (show ((i - 1 : Nat) : Int) < (t.length : Int) by omega)]
  refine Ev.bind (specKeyLess _ _ (by have := (hs _ (slotAt_mem t (k := i - 1) (by omega))).1; unfold slotAt at this; omega)) ?_
  have hlt' : keyLt (rd_T32 t ((i - 1 : Nat) : Int)).f0 (rd_T32 t (i : Int)).f0 = true := hlt
  simp only [hlt', if_true, wrap_nat i (by omega)]
  exact hr
 ·
  intro i hi ho
  unfold slotOk at ho
  refine Ev.shift ?_
  simp only [spec_ValidTable.l0, if_pos (show (i : Int) < (t.length : Int) by omega), if_pos (show (0 : Int) ≤ (i : Int) by omega)]
  refine Ev.bind (specSlotOk _) ?_
  cases hg : slB (rd_T32 t (i : Int))
  · simp only [Bool.false_eq_true, if_false]
    exact Ev.now _
  have hg' : slB (slotAt t i) = true := hg
  rw [hg', Bool.true_and, Bool.or_eq_false_iff] at ho
  have h0 : ¬ i = 0 := of_decide_eq_false ho.1
  simp only [if_true, if_pos (show (i : Int) > 0 by omega), wrap_pred' i (by omega) (by omega), if_pos (show (0 : Int) ≤ ((i - 1 : Nat) : Int) by omega), if_pos (show ((i - 1 : Nat) : Int) < (t.length : Int) by omega)]
  refine Ev.bind (specKeyLess _ _ (by have := (hs _ (slotAt_mem t (k := i - 1) (by omega))).1; unfold slotAt at this; omega)) ?_
  have hlt' : keyLt (rd_T32 t ((i - 1 : Nat) : Int)).f0 (rd_T32 t (i : Int)).f0 = false := ho.2
  simp only [hlt', Bool.false_eq_true, if_false]
  exact Ev.now _
 · intro r hr
   refine Ev.shift ?_
   simp only [spec_ValidTable.l0, if_neg (show ¬ (t.length : Int) < (t.length : Int) by omega)]
   exact hr
 · intro h
   rw [decide_eq_true ⟨by omega, h⟩]
   exact Ev.now _
 rintro ⟨i, hi, ho⟩
 exact decide_eq_false (fun h => by rw [h.2 i hi] at ho; cases ho)
theorem implSlotValid (s : S32) : Ev (fun k => impl_Slot_valid.f k s.f0.f0 s.f0.f1 s.f1 s.f2 s.f3 s.f4 s.f5 s.f6 s.f7) (slB s) := by
 have empty : s.f2.toList = ([] : List UInt8) ↔ s.f2.size = 0 := by
  rw [Lib.toList_data, ← data_length, List.length_eq_zero_iff]
 have tail : Ev (fun _ => if s.f1 = true then (if s.f5 ≥ 1 then (if s.f5 ≤ s.f4 then (if (s.f3.length : Int) ≤ 1000 then ((slices_ContainsFunc_impl_Key_impl_Key_130.f s.f3).bind fun t358 => (some (!t358))) else (some false)) else (some false)) else (some false)) else (if heldB s = true then (if s.f2.toList = ([] : List UInt8) then (if (s.f3.length : Int) = 0 then (if s.f4 = 0 then (some (s.f5 == 0)) else (some false)) else (some false)) else (some false)) else (some false)))
  (if s.f1 = true then decide (1 ≤ s.f5 ∧ s.f5 ≤ s.f4 ∧ s.f3.length ≤ 1000) && s.f3.all kyB else heldB s && decide (s.f2.size = 0 ∧ s.f3.length = 0 ∧ s.f4 = 0 ∧ s.f5 = 0)) := by
  cases hh : s.f1
  ·
   simp only [Bool.false_eq_true, if_false]
   cases hb : heldB s
   · simp only [Bool.false_eq_true, if_false, Bool.false_and]
     exact Ev.now _
   simp only [if_true, Bool.true_and]
   by_cases h1 : s.f2.size = 0
   ·
    simp only [if_pos (empty.2 h1)]
    by_cases h2 : s.f3.length = 0
    ·
     simp only [if_pos (show (s.f3.length : Int) = 0 by omega)]
     by_cases h3 : s.f4 = 0
     · simp only [if_pos h3]
       refine Ev.const (congrArg some ?_)
       rw [Bool.eq_iff_iff, beq_iff_eq, decide_eq_true_iff]
       exact ⟨fun h => ⟨h1, h2, h3, h⟩, fun h => h.2.2.2⟩
     simp only [if_neg h3]
     rw [decide_eq_false (fun h => h3 h.2.2.1)]
     exact Ev.now _
    simp only [if_neg (show ¬ (s.f3.length : Int) = 0 by omega)]
    rw [decide_eq_false (fun h => h2 h.2.1)]
    exact Ev.now _
   simp only [if_neg (fun h => h1 (empty.1 h))]
   rw [decide_eq_false (fun h => h1 h.1)]
   exact Ev.now _
  simp only [if_true]
  by_cases h1 : s.f5 ≥ 1
  ·
   simp only [if_pos h1]
   by_cases h2 : s.f5 ≤ s.f4
   ·
    simp only [if_pos h2]
    by_cases h3 : s.f3.length ≤ 1000
    · simp only [if_pos (show (s.f3.length : Int) ≤ 1000 by omega), slices_ContainsFunc_impl_Key_impl_Key_130.f, Option.bind_some]
      rw [decide_eq_true ⟨h1, h2, h3⟩, Bool.true_and]
      refine Ev.const (congrArg some ?_)
      rw [List.not_any_eq_all_not]
      simp
    simp only [if_neg (show ¬ (s.f3.length : Int) ≤ 1000 by omega)]
    rw [decide_eq_false (fun h => h3 h.2.2), Bool.false_and]
    exact Ev.now _
   simp only [if_neg h2]
   rw [decide_eq_false (fun h => h2 h.2.1), Bool.false_and]
   exact Ev.now _
  simp only [if_neg h1]
  rw [decide_eq_false (fun h => h1 h.1), Bool.false_and]
  exact Ev.now _
 have fin : ∀ c : Bool, Ev (fun k => impl_Slot_valid.j1 k (heldB s) c s.f0.f0 s.f0.f1 s.f1 s.f2 s.f3 s.f4 s.f5 s.f6 s.f7) (if c = true then false else (if s.f1 = true then decide (1 ≤ s.f5 ∧ s.f5 ≤ s.f4 ∧ s.f3.length ≤ 1000) && s.f3.all kyB else heldB s && decide (s.f2.size = 0 ∧ s.f3.length = 0 ∧ s.f4 = 0 ∧ s.f5 = 0))) := fun c => by
  refine Ev.shift ?_
  simp only [impl_Slot_valid.j1]
  cases c
  · simp only [Bool.false_eq_true, if_false]
    exact tail
  simp only [if_true]
  exact Ev.now _
 have main : Ev (fun k => impl_Slot_valid.j0 k (heldB s) s.f0.f0 s.f0.f1 s.f1 s.f2 s.f3 s.f4 s.f5 s.f6 s.f7) (slB s) := by
  refine Ev.shift ?_
  simp only [impl_Slot_valid.j0, keyValid_f, Option.bind_some]
  unfold slB
  cases hk : kyB s.f0
  · simp only [Bool.false_eq_true, if_false, Bool.false_and]
    exact fin true
  simp only [if_true, Bool.true_and]
  cases hh : heldB s
  ·
   rw [hh] at fin
   simp only [Bool.false_eq_true, if_false, Bool.false_or]
   by_cases h0 : s.f6 = 0
   ·
    simp only [if_pos h0]
    by_cases h7 : s.f7 = 0
    · have e7 : (s.f7 != 0) = false := by simp [h7]
      rw [decide_eq_true ⟨h0, h7⟩, Bool.true_and, e7]
      exact fin false
    rw [decide_eq_false (fun h => h7 h.2), Bool.false_and, show (s.f7 != 0) = true from bne_iff_ne.2 h7]
    exact fin true
   simp only [if_neg h0]
   rw [decide_eq_false (fun h => h0 h.1), Bool.false_and]
   exact fin true
  rw [hh] at fin
  simp only [if_true, Bool.true_or, Bool.true_and]
  exact fin false
 unfold impl_Slot_valid.f
 by_cases h1 : s.f6 ≥ 1
 ·
  simp only [if_pos h1]
  by_cases h2 : s.f6 ≤ 16
  · simp only [if_pos h2]
    rw [show decide (s.f7 ≥ 1) = heldB s from decide_eq_decide.2 ⟨fun h => ⟨h1, h2, h⟩, fun h => h.2.2⟩]
    exact main
  simp only [if_neg h2]
  rw [show heldB s = false from decide_eq_false (fun h => h2 h.2.1)] at main
  exact main
 simp only [if_neg h1]
 rw [show heldB s = false from decide_eq_false (fun h => h1 h.1)] at main
 exact main
/-- What compareKeys answers. -/
def cmpK (a b : S29) : Int := if a.f0 < b.f0 then -1 else if a.f0 > b.f0 then 1 else if ltB a.f1 b.f1 = true then -1 else if ltB b.f1 a.f1 = true then 1 else 0
theorem or2 (x y : Int) : Ev (fun k => cmp_Or_int.f k [x, y]) (if x = 0 then y else x) := by
 refine Ev.shift (Ev.shift (Ev.shift ?_))
 by_cases h : x = 0
 ·
  by_cases h2 : y = 0
  · simp [cmp_Or_int.f, cmp_Or_int.l0, rd, wrap64, h, h2]
    exact Ev.now _
  simp [cmp_Or_int.f, cmp_Or_int.l0, rd, wrap64, h, h2]
  exact Ev.now _
 simp [cmp_Or_int.f, cmp_Or_int.l0, rd, h]
 exact Ev.now _
theorem implCompareKeys (a b : S29) : Ev (fun k => impl_compareKeys.f k a.f0 a.f1 b.f0 b.f1) (cmpK a b) := by
 have e1 : cmp_Compare_int.f a.f0 b.f0 = some (if a.f0 < b.f0 then -1 else if a.f0 > b.f0 then 1 else 0) := by
  unfold cmp_Compare_int.f cmp_isNaN_int.f
  simp only [bne_self_eq_false, Option.bind_some, Bool.false_eq_true, if_false]
  split
  · rfl
  split <;> rfl
 have e2 : cmp_Compare_string.f a.f1 b.f1 = some (if ltB a.f1 b.f1 = true then -1 else if ltB b.f1 a.f1 = true then 1 else 0) := by
  unfold cmp_Compare_string.f ltB
  rw [Lib.toList_data, Lib.toList_data]
 unfold impl_compareKeys.f
 simp only [e1, e2, Option.bind_some]
 refine Ev.bind (or2 _ _) ?_
 refine Ev.const (congrArg some ?_)
 unfold cmpK
 by_cases h1 : a.f0 < b.f0
 · simp [h1]
 by_cases h2 : a.f0 > b.f0
 · simp [h1, h2]
 simp [h1, h2]
theorem cmpK_lt (a b : S29) : (cmpK a b ≥ 0) ↔ keyLt a b = false := by
 unfold cmpK keyLt
 by_cases h1 : a.f0 < b.f0
 · rw [if_pos h1, if_neg (by omega), decide_eq_true h1]
   simp
 rw [if_neg h1]
 by_cases h2 : a.f0 > b.f0
 · rw [if_pos h2, if_neg (by omega), decide_eq_false h1]
   simp
 have he : a.f0 = b.f0 := by omega
 rw [if_neg h2, decide_eq_false h1, he]
 cases h3 : ltB a.f1 b.f1
 · cases h4 : ltB b.f1 a.f1 <;> simp
 simp
theorem implValidTable (t : List S32) : Ev (fun k => impl_ValidTable.f k t) (vtB t) := by
 unfold impl_ValidTable.f vtB
 by_cases c : (t.length : Int) > 4096
 · simp only [if_pos c]
   rw [decide_eq_false (fun h => by omega)]
   exact Ev.now _
 simp only [if_neg c]
 refine cont_loop (fun k i => impl_ValidTable.l0 k t (t.length : Int) (i : Nat) t) t.length (slotOk t) false (fun _ => some true) ?_ ?_ ?_ _ ?_ ?_
 ·
  intro i hi ho r hr
  unfold slotOk at ho
  rw [Bool.and_eq_true] at ho
  have ho1 : slB (rd_T32 t (i : Int)) = true := ho.1
  refine Ev.shift ?_
  simp only [impl_ValidTable.l0, if_pos (show (i : Int) < (t.length : Int) by omega), if_pos (show (0 : Int) ≤ (i : Int) by omega)]
  refine Ev.bind (implSlotValid _) ?_
  simp only [ho1, if_true]
  by_cases h0 : i = 0
  · subst h0
    simp only [if_neg (show ¬ ((0 : Nat) : Int) > 0 by omega), wrap_nat 0 (by omega)]
    exact hr
  have hlt := ho.2
  rw [decide_eq_false h0, Bool.false_or] at hlt
  simp only [if_pos (show (i : Int) > 0 by omega), wrap_pred' i (by omega) (by omega), if_pos (show (0 : Int) ≤ ((i - 1 : Nat) : Int) by omega), if_pos (show ((i - 1 : Nat) : Int) < (t.length : Int) by omega)]
  refine Ev.bind (implCompareKeys _ _) ?_
  have hlt' : ¬ cmpK (rd_T32 t ((i - 1 : Nat) : Int)).f0 (rd_T32 t (i : Int)).f0 ≥ 0 := fun h => by
   have h2 : keyLt (rd_T32 t ((i - 1 : Nat) : Int)).f0 (rd_T32 t (i : Int)).f0 = true := hlt
   rw [(cmpK_lt _ _).1 h] at h2
   cases h2
  simp only [if_neg hlt', wrap_nat i (by omega)]
  exact hr
 ·
  intro i hi ho
  unfold slotOk at ho
  refine Ev.shift ?_
  simp only [impl_ValidTable.l0, if_pos (show (i : Int) < (t.length : Int) by omega), if_pos (show (0 : Int) ≤ (i : Int) by omega)]
  refine Ev.bind (implSlotValid _) ?_
  cases hg : slB (rd_T32 t (i : Int))
  · simp only [Bool.false_eq_true, if_false]
    exact Ev.now _
  have hg' : slB (slotAt t i) = true := hg
  rw [hg', Bool.true_and, Bool.or_eq_false_iff] at ho
  have h0 : ¬ i = 0 := of_decide_eq_false ho.1
  simp only [if_true, if_pos (show (i : Int) > 0 by omega), wrap_pred' i (by omega) (by omega), if_pos (show (0 : Int) ≤ ((i - 1 : Nat) : Int) by omega), if_pos (show ((i - 1 : Nat) : Int) < (t.length : Int) by omega)]
  refine Ev.bind (implCompareKeys _ _) ?_
  have hlt' : cmpK (rd_T32 t ((i - 1 : Nat) : Int)).f0 (rd_T32 t (i : Int)).f0 ≥ 0 := (cmpK_lt _ _).2 ho.2
  simp only [if_pos hlt']
  exact Ev.now _
 · intro r hr
   refine Ev.shift ?_
   simp only [impl_ValidTable.l0, if_neg (show ¬ (t.length : Int) < (t.length : Int) by omega)]
   exact hr
 · intro h
   rw [decide_eq_true ⟨by omega, h⟩]
   exact Ev.now _
 rintro ⟨i, hi, ho⟩
 exact decide_eq_false (fun h => by rw [h.2 i hi] at ho; cases ho)
theorem vtB_len {t : List S32} (h : vtB t = true) : t.length ≤ 4096 := (of_decide_eq_true h).1
abbrev SlT := Int × ByteArray × Bool × ByteArray × List S29 × Int × Int × Int × Int
abbrev tupS (x : S32) : SlT := (x.f0.f0, x.f0.f1, x.f1, x.f2, x.f3, x.f4, x.f5, x.f6, x.f7)
theorem specCopyKeys (l : List S29) (hl : l.length ≤ 1048576) : Ev (fun k => spec_l4CopyKeys.f k l) l := by
 unfold spec_l4CopyKeys.f
 refine Exists.elim (ev_loop (fun k (s : List S29) (i : Nat) => spec_l4CopyKeys.l0 k l s i) l.length (fun i s => s = l.take i) (fun r => r = l) ?_ ?_ 0 [] (Nat.zero_le _) (by simp)) (fun r h => by obtain ⟨rfl, hr⟩ := h; exact hr)
 ·
  rintro i s hi rfl
  refine .inr ⟨l.take (i + 1), rfl, fun r hr => Ev.shift ?_⟩
  have hg : rd_T29 l (i : Int) = l[i] := by unfold rd_T29; rw [Int.toNat_natCast, List.getD_eq_getElem?_getD, List.getElem?_eq_getElem hi]; rfl
  simp only [spec_l4CopyKeys.l0, if_pos (show (i : Int) < (l.length : Int) by omega), if_pos (show (0 : Int) ≤ (i : Int) by omega), if_pos (show (l.take i).length < 5864062014805 by rw [List.length_take]; omega), wrap_nat i (by omega), hg]
  rw [List.take_succ_eq_append_getElem hi] at hr
  exact hr
 rintro s rfl
 refine ⟨l, rfl, Ev.shift ?_⟩
 simp only [spec_l4CopyKeys.l0, if_neg (show ¬ (l.length : Int) < (l.length : Int) by omega), List.take_length]
 exact Ev.now _
theorem specCopySlot (x : S32) (hl : x.f3.length ≤ 1048576) : Ev (fun k => spec_l4CopySlot.f k x.f0.f0 x.f0.f1 x.f1 x.f2 x.f3 x.f4 x.f5 x.f6 x.f7) (tupS x) := by
 unfold spec_l4CopySlot.f
 exact Ev.bind (specCopyKeys _ hl) (Ev.now _)
theorem implRows (t : List S32) (hv : vtB t = true) (hs : ∀ x ∈ t, smSlot' x) : impl_Table_rows.f t = some (t.map rowS) := by
 unfold impl_Table_rows.f
 rw [if_pos ⟨vtB_len hv, fun s h => by have := (hs s h).2.2.1; omega⟩]
theorem copyS (x : S32) (hl : x.f3.length ≤ 1048576) : Ev (fun k => spec_l4CopySlot.f k x.f0.f0 x.f0.f1 x.f1 x.f2 x.f3 x.f4 x.f5 x.f6 x.f7) (tupS x) := specCopySlot x hl
theorem rowTS (s : S32) : rowT (rowS s) = s := rfl
theorem map_rowTS (t : List S32) : (t.map rowS).map rowT = t := by rw [List.map_map]; exact List.map_id'' (fun s => rowTS s) t
theorem table_of (t : List S32) (hl : t.length ≤ 4096) (hs : ∀ x ∈ t, smSlot' x) : impl_rows_table.f (t.map rowS) = some t := by
 unfold impl_rows_table.f
 have hb : ∀ s ∈ t.map rowS, s.f4.length < 4398046511104 := fun s h => by
  obtain ⟨x, hx, rfl⟩ := List.mem_map.1 h
  have := (hs x hx).2.2.1
  show x.f3.length < _
  omega
 rw [if_pos ⟨by rw [List.length_map]; omega, hb⟩, map_rowTS]
theorem workerOk_f (wk : Int) : impl_workerOk.f wk = some (decide (0 ≤ wk ∧ wk < 16)) := by
 unfold impl_workerOk.f
 by_cases c : wk ≥ 0
 · rw [if_pos c]
   congr 1
   rw [Bool.eq_iff_iff, decide_eq_true_iff, decide_eq_true_iff]
   exact ⟨fun h => ⟨c, h⟩, fun h => h.2⟩
 rw [if_neg c, decide_eq_false (fun h => c h.1)]
theorem specWorkerOk_f (wk : Int) : spec_l4WorkerOk.f wk = some (decide (0 ≤ wk ∧ wk < 16)) := workerOk_f wk
/-- What Release answers. -/
def rlT (t : List S32) (wk : Int) : List S32 := if vtB t = true then (if 0 ≤ wk ∧ wk < 16 then (t.map (rlS wk)).filter rlK else []) else []
theorem rlS_sm (wk : Int) {s : S32} (h : smSlot' s) : smSlot' (rlS wk s) := by
 unfold rlS
 split
 · exact h
 exact h
theorem rl_sm {t : List S32} (hs : ∀ x ∈ t, smSlot' x) (wk : Int) : ∀ x ∈ (t.map (rlS wk)).filter rlK, smSlot' x := fun x hx => by
 obtain ⟨s, hm, rfl⟩ := List.mem_map.1 (List.mem_filter.1 hx).1
 exact rlS_sm wk (hs s hm)
theorem rl_len (t : List S32) (wk : Int) : ((t.map (rlS wk)).filter rlK).length ≤ t.length := by
 have := List.length_filter_le rlK (t.map (rlS wk))
 rwa [List.length_map] at this
theorem rl_rows (t : List S32) (wk : Int) : ((t.map rowS).map (frR wk)).filter keepR = ((t.map (rlS wk)).filter rlK).map rowS := by
 have e1 : (t.map rowS).map (frR wk) = (t.map (rlS wk)).map rowS := by
  rw [List.map_map, List.map_map]
  refine List.map_congr_left (fun s _ => ?_)
  show frR wk (rowS s) = rowS (rlS wk s)
  unfold frR rlS rowS
  simp only
  split <;> rfl
 rw [e1, List.filter_map]
 rfl
theorem implRelease (t : List S32) (hs : ∀ x ∈ t, smSlot' x) (wk : Int) : Ev (fun k => impl_Release.f k t wk) (rlT t wk) := by
 unfold impl_Release.f rlT
 simp only [workerOk_f, Option.bind_some]
 have hno : Ev (fun k => (impl_Release.ch k t false wk).bind fun p => some p.1) ([] : List S32) := by
  unfold impl_Release.ch
  simp only [Bool.false_eq_true, if_false, Option.bind_some]
  exact Ev.now _
 by_cases c0 : 0 ≤ wk ∧ wk < 16
 case neg =>
  simp only [if_neg c0, decide_eq_false c0]
  cases vtB t <;> simpa using hno
 simp only [if_pos c0, decide_eq_true c0]
 refine Ev.bind (a := (if vtB t = true then ((t.map (rlS wk)).filter rlK, (0 : Int)) else ([], 9))) ?_ ?_
 ·
  unfold impl_Release.ch
  simp only [if_true]
  refine Ev.bind (implValidTable t) ?_
  cases hv : vtB t
  · simp only [Bool.false_eq_true, if_false]; exact Ev.now _
  have hl := vtB_len hv
  have hlr := rl_len t wk
  simp only [if_true, implRows t hv hs, Option.bind_some, impl_Release.rf, rl_rows, table_of ((t.map (rlS wk)).filter rlK) (by omega) (rl_sm hs wk)]
  exact Ev.now _
 cases vtB t <;> exact Ev.now _
theorem rel_l (wk : Int) : ∀ (l out : List S32), (∀ x ∈ l, smSlot' x) → Ev (fun k => spec_Release.l k wk l out) (out ++ (l.map (rlS wk)).filter rlK)
 | [], out, _ => by
  rw [List.map_nil, List.filter_nil, List.append_nil]
  exact Ev.now _
 | s :: l, out, hs => by
  have ih := fun out' => rel_l wk l out' (fun x hx => hs x (List.mem_cons_of_mem _ hx))
  simp only [spec_Release.l_cons]
  refine Ev.bind (copyS s (hs s (List.mem_cons_self ..)).2.2.1) ?_
  have e : cpS (tupS s) = s := rfl
  simp only [e, List.map_cons]
  by_cases c : rlK (rlS wk s) = true
  · simp only [if_pos c]
    rw [List.filter_cons_of_pos c]
    have := ih (out ++ [rlS wk s])
    rwa [List.append_assoc] at this
  simp only [if_neg c]
  rw [List.filter_cons_of_neg c]
  exact ih out
theorem specRelease (t : List S32) (hl : t.length ≤ 1048576) (hs : ∀ x ∈ t, smSlot' x) (wk : Int) : Ev (fun k => spec_Release.f k t wk) (rlT t wk) := by
 unfold spec_Release.f rlT
 simp only [if_pos hl]
 refine Ev.bind (specValidTable t hs) ?_
 cases hv : vtB t
 · simp only [Bool.false_eq_true, if_false]; exact Ev.now _
 simp only [if_true, specWorkerOk_f, Option.bind_some]
 by_cases c0 : 0 ≤ wk ∧ wk < 16
 case neg => simp only [if_neg c0, decide_eq_false c0, Bool.false_eq_true, if_false]; exact Ev.now _
 simp only [if_pos c0, decide_eq_true c0, if_true]
 simpa using rel_l wk t [] hs
theorem rlT_sm {t : List S32} (hl : t.length ≤ 1048576) (hs : ∀ x ∈ t, smSlot' x) (wk : Int) : (rlT t wk).length ≤ 1048576 ∧ ∀ x ∈ rlT t wk, smSlot' x := by
 have h0 : (([] : List S32)).length ≤ 1048576 ∧ ∀ x ∈ ([] : List S32), smSlot' x := ⟨by simp, fun x hx => by cases hx⟩
 unfold rlT
 split
 · split
   · exact ⟨by have := rl_len t wk; omega, rl_sm hs wk⟩
   exact h0
 exact h0
theorem release_true (l : List S154) (wk : Int) (hl : l.length ≤ maxLen) (hz : ∀ s ∈ l, q154 s) (_ : (Lit.int .i64 wk).wf = true) : Ev (fun k => laws_FnExactRelease.f k l wk) true := by
 unfold laws_FnExactRelease.f
 obtain ⟨t, hev, ht⟩ := szTable_ev l 1048576 (by omega) (by omega) hl hz
 refine Ev.bind hev ?_
 by_cases c : t < 0
 · simp only [if_pos c]; exact Ev.now _
 simp only [if_neg c]
 obtain ⟨ht0, ht1, hl1, hz1⟩ := ht.resolve_left c
 have hto := toTable_ev l hl1 hz1
 have hs := smSlot_conv hz1
 have hlen : (l.map convSlot).length ≤ 1048576 := by simpa using hl1
 obtain ⟨hrl, hrs⟩ := rlT_sm hlen hs wk
 unfold F27
 refine Ev.bind hto ?_
 refine Ev.bind (specRelease _ hlen hs wk) ?_
 refine Ev.bind (implRelease _ hs wk) ?_
 refine Ev.bind (eqTable_ev _ hrl hrs) ?_
 refine Ev.bind (eqTable_ev _ hlen hs) ?_
 refine Ev.bind (markTable_ev _ hlen hs) ?_
 refine Ev.bind (markTable_ev _ hrl hrs) ?_
 refine Ev.bind (heldTable_ev _ hrl hrs) (Ev.const ?_)
 rw [if_pos ⟨⟨⟨rfl, rfl⟩, markTable_pos _⟩, markTable_pos _, rfl⟩]
end Go.Proofs.YtnbohlcibgfjaaaDoor.Gp
end
