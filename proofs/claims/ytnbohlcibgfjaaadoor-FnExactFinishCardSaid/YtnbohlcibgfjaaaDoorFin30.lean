/- A part of the proof of RowFnExactFinish: each text's theorems that it needs, packed by shake.py, a program of this work; Lean checks them. -/
import Derived.Test.YtnbohlcibgfjaaaDoorFin8
import Derived.Test.YtnbohlcibgfjaaaDoorFin9
import Derived.Test.YtnbohlcibgfjaaaDoorFin6
import Derived.Test.YtnbohlcibgfjaaaDoorFin29
import Derived.Test.YtnbohlcibgfjaaaDoorFin24
import Derived.Test.YtnbohlcibgfjaaaDoorFin22
import Derived.Test.YtnbohlcibgfjaaaDoorFin11
import Derived.Test.YtnbohlcibgfjaaaDoorFin25
import Derived.Test.YtnbohlcibgfjaaaDoorFin23
import Derived.Test.YtnbohlcibgfjaaaDoorFin16
section
namespace Go.Proofs.YtnbohlcibgfjaaaDoor.Gp
open Go.RowKit Go.Proofs.YtnbohlcibgfjaaaDoorW.PrintWords
theorem heldSlotS_ev (l : List S32) (hs : ∀ s ∈ l, s.f3.length ≤ 1048576) : ∀ (a : List S32) (x : Int), 0 ≤ x → mkN l x < 4611686018427387904 → a.length + l.length < 4611686018427387904 →
 Ev (fun k => laws_heldSlotS.l0 k (a ++ mkSs l x) x (a.length : Int)) (mkN l x) := by
 induction l with
 | nil =>
  intro a x h0 h1 h2
  refine Ev.shift ?_
  simp only [laws_heldSlotS.l0, mkSs, mkN, List.append_nil, if_neg (show ¬ (a.length : Int) < (a.length : Int) by omega)]
  exact Ev.now _
 | cons s l ih =>
  intro a x h0 h1 h2
  rw [List.length_cons] at h2
  refine Ev.shift ?_
  have hl : (a.length : Int) < ((a ++ mkSs (s :: l) x).length : Int) := by rw [List.length_append, mkSs_length, List.length_cons]; omega
  have h3 := hs s (List.mem_cons_self ..)
  have h4 := mkN_le l (x + 4 + 2 * s.f3.length + 4)
  simp only [mkN] at h1
  simp only [laws_heldSlotS.l0, if_pos hl, if_pos (show (0 : Int) ≤ (a.length : Int) by omega), wrap_up x h0 (by omega), wrap_up (x + 1) (by omega) (by omega), wrap_up (x + 1 + 1) (by omega) (by omega), wrap_up (x + 1 + 1 + 1) (by omega) (by omega), wrap_nat a.length (by omega)]
  simp only [mkSs, rdS]
  simp only [mkS, if_true]
  refine Ev.bind (markText_ev (x + 1) (by omega)) ?_
  simp only [if_true, show x + 1 + 1 = x + 2 by omega, bne_self_eq_false, Bool.false_eq_true, if_false, show x + 2 + 1 = x + 3 by omega]
  refine Ev.bind (markText_ev (x + 3) (by omega)) ?_
  simp only [if_true]
  have hk : Ev (fun k => laws_heldKeyS.f k (mkKs s.f3 (x + 4)) (x + 3 + 1)) (x + 4 + 2 * s.f3.length) := by
   unfold laws_heldKeyS.f
   rw [show x + 3 + 1 = x + 4 by omega]
   simpa using heldKeyS_ev s.f3 [] (x + 4) (by omega) (by omega) (by simp; omega)
  refine Ev.bind hk ?_
  simp only [if_neg (show ¬ x + 4 + 2 * (s.f3.length : Int) < 0 by omega), if_true, wrap_up (x + 4 + 2 * s.f3.length) (by omega) (by omega), wrap_up (x + 4 + 2 * s.f3.length + 1) (by omega) (by omega), wrap_up (x + 4 + 2 * s.f3.length + 1 + 1) (by omega) (by omega), if_pos (show x + 4 + 2 * (s.f3.length : Int) + 2 = x + 4 + 2 * (s.f3.length : Int) + 1 + 1 by omega), if_pos (show x + 4 + 2 * (s.f3.length : Int) + 3 = x + 4 + 2 * (s.f3.length : Int) + 1 + 1 + 1 by omega), show x + 4 + 2 * (s.f3.length : Int) + 1 + 1 + 1 + 1 = x + 4 + 2 * (s.f3.length : Int) + 4 by omega, show wrap64 (x + 4 + 2 * (s.f3.length : Int) + 4) = x + 4 + 2 * (s.f3.length : Int) + 4 by unfold wrap64; omega]
  have := ih (fun s hs' => hs s (List.mem_cons_of_mem _ hs')) (a ++ [mkS s x]) (x + 4 + 2 * s.f3.length + 4) (by omega) h1 (by simp; omega)
  simp only [List.append_assoc, List.singleton_append, List.length_append, List.length_cons, List.length_nil] at this
  exact this
theorem heldTable_ev (l : List S32) (hl : l.length ≤ 1048576) (hs : ∀ s ∈ l, smSlot' s) : Ev (fun k => laws_heldTable.f k (mkSs l 1) 1) (mkN l 1) := by
 unfold laws_heldTable.f laws_heldSlotS.f
 have h := mkN_lt l (fun s h => (hs s h).2.2.1) 1
 have h2 : Ev (fun k => laws_heldSlotS.l0 k (mkSs l 1) 1 0) (mkN l 1) := by simpa using heldSlotS_ev l (fun s h => (hs s h).2.2.1) [] 1 (by omega) (by omega) (by simp; omega)
 refine Ev.bind h2 ?_
 simp only [if_neg (markTable_pos l)]
 exact Ev.now _
theorem rowTS (s : S32) : rowT (rowS s) = s := rfl
theorem map_rowTS (t : List S32) : (t.map rowS).map rowT = t := by rw [List.map_map]; exact List.map_id'' (fun s => rowTS s) t
theorem table_of (t : List S32) (hl : t.length ≤ 4096) (hs : ∀ x ∈ t, smSlot' x) : impl_rows_table.f (t.map rowS) = some t := by
 unfold impl_rows_table.f
 have hb : ∀ s ∈ t.map rowS, s.f4.length < 4398046511104 := fun s h => by
  obtain ⟨x, hx, rfl⟩ := List.mem_map.1 h
  have := (hs x hx).2.2.1
  show x.f3.length < _
  omega
 rw [if_pos ⟨by rw [List.length_map]; omega, hb⟩, map_rowTS]
theorem set_rows (t : List S32) (i : Nat) (s : S32) : (t.map rowS).set i (rowS s) = (t.set i s).map rowS := (List.map_set ..).symm
theorem sm_set {t : List S32} (hs : ∀ x ∈ t, smSlot' x) (i : Nat) {s : S32} (h : smSlot' s) : ∀ x ∈ t.set i s, smSlot' x := fun x hx => by
 rcases List.mem_or_eq_of_mem_set hx with g | rfl
 · exact hs x g
 exact h
theorem workerOk_f (wk : Int) : impl_workerOk.f wk = some (decide (0 ≤ wk ∧ wk < 16)) := by
 unfold impl_workerOk.f
 by_cases c : wk ≥ 0
 · rw [if_pos c]
   congr 1
   rw [Bool.eq_iff_iff, decide_eq_true_iff, decide_eq_true_iff]
   exact ⟨fun h => ⟨c, h⟩, fun h => h.2⟩
 rw [if_neg c, decide_eq_false (fun h => c h.1)]
theorem specWorkerOk_f (wk : Int) : spec_l4WorkerOk.f wk = some (decide (0 ≤ wk ∧ wk < 16)) := workerOk_f wk
theorem ver0 {s : S32} (h : slB s = true) (h1 : s.f1 = false) : s.f4 = 0 := by
 unfold slB at h
 rw [h1, if_neg (by decide)] at h
 simp only [Bool.and_eq_true, decide_eq_true_eq] at h
 exact h.2.2.2.2.1
theorem any_all (l : List S29) : (!(l.any fun x => !kyB x)) = l.all kyB := by
 induction l with
 | nil => rfl
 | cons x l ih => rw [List.any_cons, List.all_cons, ← ih]; cases kyB x <;> simp
/-- A slot, finished. -/
def fnS (kx : S29) (rev : Int) (val : ByteArray) (ds : List S29) (ch : Int) : S32 := ⟨kx, true, val, ds, rev, ch, 0, 0⟩
def fnCh (s : S32) (rev : Int) (val : ByteArray) : Int := if s.f1 = true then (if s.f2.toList = val.toList then s.f5 else rev) else rev
def fnOk (kx : S29) (wk rev : Int) (ds : List S29) : Bool := (((kyB kx && decide (0 ≤ wk ∧ wk < 16)) && decide (1 ≤ rev)) && decide (ds.length ≤ 1000)) && !(ds.any fun x => !kyB x)
def fnIn (t : List S32) (kx : S29) (wk rev : Int) (val : ByteArray) (ds : List S29) : List S32 × Int := match atK t kx with
 | none => (t, 1)
 | some i => if ((slotAt t i).f6 = wrap64 (wk + 1) ∧ (slotAt t i).f7 = rev) ∧ (slotAt t i).f4 ≤ rev then (t.set i (fnS kx rev val ds (fnCh (slotAt t i) rev val)), 0) else (t, 1)
/-- What Finish answers. -/
def fnT (t : List S32) (kx : S29) (wk rev : Int) (val : ByteArray) (ds : List S29) : List S32 × Int :=
 if vtB t = true then (if fnOk kx wk rev ds = true then fnIn t kx wk rev val ds else ([], 9)) else ([], 9)
theorem fnS_sm {t : List S32} (hs : ∀ x ∈ t, smSlot' x) {kx : S29} {i : Nat} (ha : atK t kx = some i) {rev ch : Int} {val : ByteArray} {ds : List S29} (hv : val.size ≤ 1048576) (hl : ds.length ≤ 1048576) (hd : ∀ s ∈ ds, s.f1.size ≤ 1048576) : smSlot' (fnS kx rev val ds ch) := by
 obtain ⟨hi, hk, _⟩ := atK_some ha
 refine ⟨?_, hv, hl, hd⟩
 have := (hs _ (slotAt_mem t hi)).1
 rw [hk] at this
 exact this
theorem implFinish (t : List S32) (hs : ∀ x ∈ t, smSlot' x) (kx : S29) (wk rev : Int) (val : ByteArray) (ds : List S29) (hv0 : val.size ≤ 1048576) (hl0 : ds.length ≤ 1048576) (hd0 : ∀ s ∈ ds, s.f1.size ≤ 1048576) : Ev (fun k => impl_Finish.f k t kx.f0 kx.f1 wk rev val ds) (fnT t kx wk rev val ds) := by
 unfold impl_Finish.f fnT
 simp only [keyValid_f, workerOk_f, Option.bind_some]
 show Ev (fun k => impl_Finish.ch k t (fnOk kx wk rev ds) kx.f0 kx.f1 wk rev val ds) _
 unfold impl_Finish.ch
 cases hok : fnOk kx wk rev ds
 · simp only [Bool.false_eq_true, if_false]
   cases vtB t <;> exact Ev.now _
 simp only [if_true]
 refine Ev.bind (implValidTable t) ?_
 cases hv : vtB t
 · simp only [Bool.false_eq_true, if_false]; exact Ev.now _
 simp only [if_true, implRows t hv hs, Option.bind_some]
 have hl := vtB_len hv
 unfold impl_rows_finish.f
 simp only [if_pos (show ds.length < 4398046511104 by omega)]
 unfold fnIn
 refine Ev.bind (a := match atK t kx with | none => ((1 : Int), t.map rowS) | some i => if ((slotAt t i).f6 = wrap64 (wk + 1) ∧ (slotAt t i).f7 = rev) ∧ (slotAt t i).f4 ≤ rev then (0, (t.set i (fnS kx rev val ds (fnCh (slotAt t i) rev val))).map rowS) else (1, t.map rowS)) (Ev.bind (implFind t hv kx) (Ev.const ?_)) ?_
 ·
  cases ha : atK t kx with
  | none => rfl
  | some i =>
   obtain ⟨hi, hk, _⟩ := atK_some ha
   have hb := vtB_slot hv hi
   simp only [Option.map_some, impl_rows_finish.fo, impl_rows_finish.at, rowAt hi, rowS]
   by_cases c2 : (slotAt t i).f6 = wrap64 (wk + 1) ∧ (slotAt t i).f7 = rev
   case neg => rw [if_neg c2, if_neg (fun h => c2 h.1)]
   rw [if_pos c2]
   have c1 : 1 ≤ rev := by
    unfold fnOk at hok
    simp only [Bool.and_eq_true, decide_eq_true_eq] at hok
    exact hok.1.1.2
   by_cases c4 : (slotAt t i).f4 > rev
   · have c3 : (slotAt t i).f1 = true := by
      cases h : (slotAt t i).f1
      · have := ver0 hb h; omega
      rfl
     rw [if_pos ⟨c3, c4⟩, if_neg (fun h => by have := h.2; omega)]
   rw [if_neg (fun h => c4 h.2), if_pos ⟨c2, by omega⟩, Int.toNat_natCast, ← set_rows]
   unfold fnS fnRow impl_rows_finish.ch fnCh rowS
   simp only [hk]
 cases ha : atK t kx with
 | none => exact Ev.const (by simp only [table_of t hl hs, Option.bind_some])
 | some i =>
  have hx := fnS_sm hs ha (rev := rev) (ch := fnCh (slotAt t i) rev val) hv0 hl0 hd0
  refine Ev.const ?_
  simp only
  split
  · simp only [table_of (t.set i (fnS kx rev val ds (fnCh (slotAt t i) rev val))) (by rw [List.length_set]; exact hl) (sm_set hs i hx), Option.bind_some]
  simp only [table_of t hl hs, Option.bind_some]
theorem fnT_sm {t : List S32} (hl : t.length ≤ 1048576) (hs : ∀ x ∈ t, smSlot' x) (kx : S29) (wk rev : Int) (val : ByteArray) (ds : List S29) (hv0 : val.size ≤ 1048576) (hl0 : ds.length ≤ 1048576) (hd0 : ∀ s ∈ ds, s.f1.size ≤ 1048576) : (fnT t kx wk rev val ds).1.length ≤ 1048576 ∧ ∀ x ∈ (fnT t kx wk rev val ds).1, smSlot' x := by
 have h0 : (([] : List S32)).length ≤ 1048576 ∧ ∀ x ∈ ([] : List S32), smSlot' x := ⟨by simp, fun x hx => by cases hx⟩
 unfold fnT
 split
 ·
  split
  ·
   unfold fnIn
   cases ha : atK t kx with
   | none => exact ⟨hl, hs⟩
   | some i =>
    simp only
    split
    · exact ⟨by show (t.set i _).length ≤ _; rw [List.length_set]; exact hl, sm_set hs i (fnS_sm hs ha hv0 hl0 hd0)⟩
    exact ⟨hl, hs⟩
  exact h0
 exact h0
theorem markKeysAt (l : List S29) (x : Int) (h0 : 0 ≤ x) (h1 : x + 2 * l.length < 4611686018427387904) (h2 : l.length < 4611686018427387904) : Ev (fun k => laws_markKeyS.f k l x) (x + 2 * (l.length : Int), mkKs l x) := by
 unfold laws_markKeyS.f
 simpa using markKeyS_ev l [] x h0 h1 (by simp; omega)
theorem specFinish (t : List S32) (hs : ∀ x ∈ t, smSlot' x) (kx : S29) (wk rev : Int) (val : ByteArray) (ds : List S29) (hl0 : ds.length ≤ 1048576) : Ev (fun k => spec_Finish.f k t kx.f0 kx.f1 wk rev val ds) (fnT t kx wk rev val ds) := by
 unfold spec_Finish.f fnT fnOk
 rw [any_all]
 have hno : Ev (fun k => spec_Finish.j0 k wk rev val ds true t kx.f0 kx.f1) ([], 9) := Ev.shift (by simp only [spec_Finish.j0, if_true]; exact Ev.now _)
 refine Ev.bind (specValidTable t hs) ?_
 cases hv : vtB t
 · simp only [Bool.false_eq_true, if_false]; exact hno
 simp only [if_true]
 refine Ev.bind (specKeyOk kx) ?_
 cases hk : kyB kx
 · simp only [Bool.false_eq_true, if_false, Bool.false_and]; exact hno
 simp only [if_true, specWorkerOk_f, Option.bind_some, decide_eq_true_iff, Bool.true_and]
 by_cases c0 : 0 ≤ wk ∧ wk < 16
 case neg => simp only [if_neg c0, decide_eq_false c0, Bool.false_and, Bool.false_eq_true, if_false]; exact hno
 simp only [if_pos c0, decide_eq_true c0, Bool.true_and]
 by_cases c1 : 1 ≤ rev
 case neg => simp only [if_pos (show rev < 1 by omega), decide_eq_false c1, Bool.false_and, Bool.false_eq_true, if_false]; exact hno
 simp only [if_neg (show ¬ rev < 1 by omega), decide_eq_true c1, Bool.true_and]
 refine Ev.bind (specDepsOk ds) ?_
 cases hd : (decide (ds.length ≤ 1000) && ds.all kyB)
 · simp only [Bool.not_false, Bool.false_eq_true, if_false]; exact hno
 simp only [Bool.not_true, if_true]
 have hl : t.length ≤ 1048576 := by have := vtB_len hv; omega
 refine Ev.shift ?_
 simp only [spec_Finish.j0, Bool.false_eq_true, if_false]
 refine Ev.bind (mine_ev t hv hs kx hk wk rev) ?_
 unfold mineB slK fnIn
 cases ha : atK t kx with
 | none => simp only [Bool.false_eq_true, if_false]; exact Ev.bind (copy_ev t hl hs) (Ev.now _)
 | some i =>
  simp only [decide_eq_true_iff]
  by_cases c2 : (slotAt t i).f6 = wrap64 (wk + 1) ∧ (slotAt t i).f7 = rev ∧ (slotAt t i).f4 ≤ rev
  case neg =>
   simp only [if_neg c2, if_neg (show ¬ (((slotAt t i).f6 = wrap64 (wk + 1) ∧ (slotAt t i).f7 = rev) ∧ (slotAt t i).f4 ≤ rev) from fun h => c2 ⟨h.1.1, h.1.2, h.2⟩)]
   exact Ev.bind (copy_ev t hl hs) (Ev.now _)
  simp only [if_pos c2, if_pos (show (((slotAt t i).f6 = wrap64 (wk + 1) ∧ (slotAt t i).f7 = rev) ∧ (slotAt t i).f4 ≤ rev) from ⟨⟨c2.1, c2.2.1⟩, c2.2.2⟩)]
  have hput : ∀ ch, Ev (fun k => (spec_l4Put.f k t kx.f0 kx.f1 true val ds rev ch 0 0).bind fun x => some (x, (0 : Int))) (t.set i (fnS kx rev val ds ch), 0) := fun ch => by
   have hp := put_ev t hl hs (fnS kx rev val ds ch) hl0
   rw [ins_some hv (fnS kx rev val ds ch) (i := i) ha] at hp
   exact Ev.bind hp (Ev.now _)
  unfold fnCh
  by_cases c3 : (slotAt t i).f1 = true
  · simp only [if_pos c3]
    by_cases c4 : (slotAt t i).f2.toList = val.toList
    · simp only [if_pos c4]; exact hput _
    simp only [if_neg c4]; exact hput _
  simp only [if_neg c3]; exact hput _
theorem finish_true (l : List S154) (b0 : Int) (b1 : ByteArray) (wk rev : Int) (val : ByteArray) (l5 : List S26) (hl : l.length ≤ maxLen) (hz : ∀ s ∈ l, q154 s) (hb0 : (Lit.int .i64 b0).wf = true) (hb1 : b1.size ≤ maxLen) (_ : (Lit.int .i64 wk).wf = true) (_ : (Lit.int .i64 rev).wf = true) (_ : val.size ≤ maxLen) (hl5 : l5.length ≤ maxLen) (hz5 : ∀ s ∈ l5, q26 s) : Ev (fun k => laws_FnExactFinish.f k l b0 b1 wk rev val l5) true := by
 unfold laws_FnExactFinish.f
 by_cases cval : (val.size : Int) > 1048576
 · simp only [if_pos cval]; exact Ev.now _
 simp only [if_neg cval]
 have hv0 : val.size ≤ 1048576 := by omega
 obtain ⟨t, hev, ht⟩ := szTable_ev l 1048576 (by omega) (by omega) hl hz
 refine Ev.bind hev ?_
 by_cases c : t < 0
 · simp only [if_pos c]; exact Ev.now _
 simp only [if_neg c]
 obtain ⟨ht0, ht1, hl1, hz1⟩ := ht.resolve_left c
 obtain ⟨v, hevv, hv⟩ := szKey_ev ⟨b0, b1⟩ t ht0 (by omega) ⟨hb0, hb1⟩
 simp only at hevv
 simp only [hevv, Option.bind_some]
 by_cases cv : v < 0
 · simp only [if_pos cv]; exact Ev.now _
 simp only [if_neg cv]
 obtain ⟨hv1, hv2, _⟩ := hv.resolve_left cv
 obtain ⟨u, hevu, hu⟩ := szKeyS_ev l5 v hv1 (by omega) hl5 hz5
 refine Ev.bind hevu ?_
 by_cases cu : u < 0
 · simp only [if_pos cu]; exact Ev.now _
 simp only [if_neg cu]
 obtain ⟨hu1, hu2, hlk, hzk⟩ := hu.resolve_left cu
 have hto := toTable_ev l hl1 hz1
 have hs := smSlot_conv hz1
 have hlen : (l.map convSlot).length ≤ 1048576 := by simpa using hl1
 have hdl : (l5.map convKey).length ≤ 1048576 := by simpa using hlk
 have hdz : ∀ s ∈ l5.map convKey, s.f1.size ≤ 1048576 := fun s hs => by
  obtain ⟨x, hx, rfl⟩ := List.mem_map.1 hs
  exact hzk x hx
 obtain ⟨hrl, hrs⟩ := fnT_sm hlen hs ⟨b0, b1⟩ wk rev val (l5.map convKey) hv0 hdl hdz
 have hmp := mkN_lt (l.map convSlot) (fun s h => (hs s h).2.2.1) 1
 have hmq := mkN_le (l.map convSlot) 1
 unfold F27
 refine Ev.bind hto ?_
 refine Ev.bind (toKeyS_ev l5 hlk) ?_
 refine Ev.bind (specFinish _ hs ⟨b0, b1⟩ wk rev val _ hdl) ?_
 refine Ev.bind (implFinish _ hs ⟨b0, b1⟩ wk rev val _ hv0 hdl hdz) ?_
 refine Ev.bind (eqTable_ev _ hrl hrs) ?_
 refine Ev.bind (eqTable_ev _ hlen hs) ?_
 refine Ev.bind (eqKeyS_ev _ hdl) ?_
 refine Ev.bind (markTable_ev _ hlen hs) ?_
 refine Ev.bind (markKeysAt _ _ (by omega) (by omega) (by omega)) ?_
 refine Ev.bind (markTable_ev _ hrl hrs) ?_
 refine Ev.bind (heldTable_ev _ hrl hrs) (Ev.const ?_)
 rw [if_pos ⟨⟨⟨⟨rfl, rfl, rfl⟩, rfl⟩, by simp only; omega⟩, markTable_pos _, rfl⟩]
end Go.Proofs.YtnbohlcibgfjaaaDoor.Gp
end
