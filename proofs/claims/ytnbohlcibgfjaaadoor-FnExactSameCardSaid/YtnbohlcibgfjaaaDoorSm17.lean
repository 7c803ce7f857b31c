/- A part of the proof of RowFnExactSame: each text's theorems that it needs, packed by shake.py, a program of this work; Lean checks them. -/
import Derived.Test.YtnbohlcibgfjaaaDoorSm12
import Derived.Test.YtnbohlcibgfjaaaDoorSm7
import Derived.Test.YtnbohlcibgfjaaaDoorSm4
import Derived.Test.YtnbohlcibgfjaaaDoorSm11
import Derived.Test.YtnbohlcibgfjaaaDoorSm10
import Derived.Test.YtnbohlcibgfjaaaDoorSm16
section
namespace Go.Proofs.YtnbohlcibgfjaaaDoor.Gp
open Go.RowKit Go.Proofs.YtnbohlcibgfjaaaDoorW.PrintWords
theorem equal_ev (l m : List ByteArray) (hl : l.length ≤ 1048576) : Ev (fun k => slices_Equal_string_string.f k l m) (decide (l = m)) := by
  unfold slices_Equal_string_string.f
  by_cases h : l.length = m.length
  case neg =>
    simp only [if_neg (show ¬ (l.length : Int) = (m.length : Int) by omega)]
    rw [decide_eq_false (fun e => h (by rw [e]))]
    exact Ev.now _
  simp only [if_pos (show (l.length : Int) = (m.length : Int) by omega)]
  refine cont_loop (fun k i => slices_Equal_string_string.l0 k l m (l.length : Int) (i : Nat)) l.length (fun i => decide ((nameAt l i).toList = (nameAt m i).toList)) false (fun _ => some true) ?_ ?_ ?_ _ ?_ ?_
  · intro i hi ho r hr
    have ho' : (nameAt l i).toList = (nameAt m i).toList := of_decide_eq_true ho
    refine Ev.shift ?_
    simp only [slices_Equal_string_string.l0, if_pos (show (i : Int) < (l.length : Int) by omega), if_pos (show (0 : Int) ≤ (i : Int) by omega), if_pos (show (i : Int) < (m.length : Int) by omega), if_pos ho', wrap_nat i (by omega)]
    exact hr
  · intro i hi ho
    have ho' : ¬ (nameAt l i).toList = (nameAt m i).toList := of_decide_eq_false ho
    refine Ev.shift ?_
    simp only [slices_Equal_string_string.l0, if_pos (show (i : Int) < (l.length : Int) by omega), if_pos (show (0 : Int) ≤ (i : Int) by omega), if_pos (show (i : Int) < (m.length : Int) by omega), if_neg ho']
    exact Ev.now _
  · intro r hr
    refine Ev.shift ?_
    simp only [slices_Equal_string_string.l0, if_neg (show ¬ (l.length : Int) < (l.length : Int) by omega)]
    exact hr
  · intro h'
    rw [decide_eq_true ((names_eq h).1 (fun i hi => of_decide_eq_true (h' i hi)))]
    exact Ev.now _
  · rintro ⟨i, hi, ho⟩
    exact decide_eq_false (fun e => of_decide_eq_false ho ((names_eq h).2 e i hi))
/-- What a pair of nodes demands. -/
def kidPairs (g : NdG) (x y : Nat) : List PrT := (List.range (nd g x).f2.length).map (fun i => mkP (kidN g x i) (kidN g y i))
theorem kids_ev {g : NdG} (hv : vgB g = true) (hs : ∀ x ∈ g, smNode' x) {x y : Nat} (hx : x < g.length) (hy : y < g.length) (hl : (nd g x).f2.length = (nd g y).f2.length) :
    ∀ (d i : Nat) (o : List PrT), (nd g x).f2.length - i = d → i ≤ (nd g x).f2.length → OkO g.length o → Ev (fun k => kids_d k (nd g x).f2 (nd g y).f2 i o) (((kidPairs g x y).drop i).foldl addP o) := by
  have hn := vg_len hv
  have hnn : g.length * g.length ≤ 4000 * 4000 := Nat.mul_le_mul hn hn
  have sx : smNode' (nd g x) := hs _ (rd_mem_nd g hx)
  have hkl : (kidPairs g x y).length = (nd g x).f2.length := by unfold kidPairs; rw [List.length_map, List.length_range]
  intro d
  induction d with
  | zero =>
    intro i o hd hi hO
    have hlen := hO.len
    obtain rfl : i = (nd g x).f2.length := by omega
    refine Ev.shift ?_
    simp only [kids_d, if_pos (show o.length < 1099511627776 ∧ (nd g x).f2.length < 1099511627776 from ⟨by omega, by have := sx.2.1; omega⟩), if_neg (Nat.lt_irrefl _)]
    rw [List.drop_of_length_le (by omega)]
    exact Ev.now _
  | succ d ih =>
    intro i o hd hi hO
    have hlen := hO.len
    have hlt : i < (nd g x).f2.length := by omega
    obtain ⟨ka, ea⟩ := vg_kid hv hx hlt
    obtain ⟨kb, eb⟩ := vg_kid hv hy (show i < (nd g y).f2.length by omega)
    refine Ev.shift ?_
    simp only [kids_d, if_pos (show o.length < 1099511627776 ∧ (nd g x).f2.length < 1099511627776 from ⟨by omega, by have := sx.2.1; omega⟩), if_pos hlt, if_pos (show i < (nd g y).f2.length by omega), ea, eb, if_pos (show (-9223372036854775808 ≤ (kidN g x i : Int) ∧ (kidN g x i : Int) ≤ 9223372036854775807) ∧ (-9223372036854775808 ≤ (kidN g y i : Int) ∧ (kidN g y i : Int) ≤ 9223372036854775807) from ⟨⟨by omega, by omega⟩, ⟨by omega, by omega⟩⟩)]
    have e : (kidPairs g x y).drop i = mkP (kidN g x i) (kidN g y i) :: (kidPairs g x y).drop (i + 1) := by
      rw [List.drop_eq_getElem_cons (by omega)]
      congr 1
      unfold kidPairs
      rw [List.getElem_map, List.getElem_range]
    rw [e, List.foldl_cons]
    exact ih (i + 1) _ (by omega) (by omega) (hO.add ka kb)
theorem same_step_ev {g : NdG} (hv : vgB g = true) (hs : ∀ x ∈ g, smNode' x) (x y : Nat) (o : List PrT) (hx : x < g.length) (hy : y < g.length) (hO : OkO g.length o) :
    if locB g x y = true then Ev (fun k => same_st g k (mkP x y) o) (true, (kidPairs g x y).foldl addP o) else ∃ o', Ev (fun k => same_st g k (mkP x y) o) (false, o') := by
  have sx : smNode' (nd g x) := hs _ (rd_mem_nd g hx)
  have base : ∀ r, Ev (fun k => if (nd g x).f0 = (nd g y).f0 then (slices_Equal_string_string.f k (nd g x).f1 (nd g y).f1).bind fun t => (if t = true then (kids_d k (nd g x).f2 (nd g y).f2 0 o).bind fun o' => some (true, o') else some (false, o)) else some (false, o)) r → Ev (fun k => same_st g k (mkP x y) o) r := fun r h => by
    refine Ev.congr (fun k => ?_) h
    unfold same_st
    exact if_pos ⟨⟨by show (0 : Int) ≤ (x : Int); omega, by show (x : Int) < (g.length : Int); omega⟩, ⟨by show (0 : Int) ≤ (y : Int); omega, by show (y : Int) < (g.length : Int); omega⟩⟩
  by_cases h0 : (nd g x).f0 = (nd g y).f0
  case neg =>
    rw [if_neg (fun h => h0 (locB_iff.1 h).1)]
    exact ⟨o, base _ (by simp only [if_neg h0]; exact Ev.now _)⟩
  by_cases h1 : (nd g x).f1 = (nd g y).f1
  case neg =>
    rw [if_neg (fun h => h1 (locB_iff.1 h).2.1)]
    refine ⟨o, base _ ?_⟩
    simp only [if_pos h0]
    refine Ev.bind (equal_ev _ _ sx.1) ?_
    rw [decide_eq_false h1]
    simp only [Bool.false_eq_true, if_false]
    exact Ev.now _
  have h2 : (nd g x).f2.length = (nd g y).f2.length := by
    have a := (of_decide_eq_true hv).2 x hx
    have b := (of_decide_eq_true hv).2 y hy
    unfold ndB at a b
    rw [Bool.and_eq_true] at a b
    have a2 := a.2
    have b2 := b.2
    have ha2 : shapeB (nd g x) = true := a2
    have hb2 : shapeB (nd g y) = true := b2
    unfold shapeB at ha2 hb2
    rw [← h0, ← h1] at hb2
    by_cases c4 : (nd g x).f0 = 4
    · rw [if_pos c4] at ha2 hb2
      have := (of_decide_eq_true ha2).2
      have := (of_decide_eq_true hb2).2
      omega
    rw [if_neg c4] at ha2 hb2
    by_cases c3 : (nd g x).f0 = 3
    · rw [if_pos c3] at ha2 hb2
      have := (of_decide_eq_true ha2).1
      have := (of_decide_eq_true hb2).1
      omega
    rw [if_neg c3] at ha2 hb2
    by_cases c0 : (nd g x).f0 = 0 ∨ (nd g x).f0 = 1 ∨ (nd g x).f0 = 2
    · rw [if_pos c0] at ha2 hb2
      have := (of_decide_eq_true ha2).2
      have := (of_decide_eq_true hb2).2
      omega
    · rw [if_neg c0] at ha2
      cases ha2
  rw [if_pos (locB_iff.2 ⟨h0, h1, h2⟩)]
  refine base _ ?_
  simp only [if_pos h0]
  refine Ev.bind (equal_ev _ _ sx.1) ?_
  rw [decide_eq_true h1]
  simp only [if_true]
  refine Ev.bind (kids_ev hv hs hx hy h2 _ 0 o rfl (Nat.zero_le _) hO) ?_
  exact Ev.now _
theorem kidPairs_ok {g : NdG} (hv : vgB g = true) {x y : Nat} (hx : x < g.length) (hy : y < g.length) (hl : (nd g x).f2.length = (nd g y).f2.length) : ∀ q ∈ kidPairs g x y, ∃ x' y', q = mkP x' y' ∧ x' < g.length ∧ y' < g.length := fun q hq => by
  obtain ⟨i, hi, rfl⟩ := List.mem_map.1 hq
  rw [List.mem_range] at hi
  exact ⟨_, _, rfl, (vg_kid hv hx hi).1, (vg_kid hv hy (show i < (nd g y).f2.length by omega)).1⟩
theorem same_all {g : NdG} (hv : vgB g = true) (hs : ∀ x ∈ g, smNode' x) {R : Nat} (hR : Stable g R) {a b : Nat} (ha : a < g.length) (hb : b < g.length) : Ev (fun k => all_l (same_st g) k [mkP a b] 0) (eqR g R a b) := by
  refine all_search (vg_len hv) (same_st g) (locB g) (kidPairs g) (fun x y hx hy h => kidPairs_ok hv hx hy (locB_iff.1 h).2.2) (fun x y o hx hy hO _ => same_step_ev hv hs x y o hx hy hO) (eqR g R a b) (fun x y => eqR g R x y = true) ?_ a b ?_ _ 0 [mkP a b] rfl (by simp) ⟨by simp, fun q hq => ⟨a, b, List.mem_singleton.1 hq, ha, hb⟩⟩ (by simp) (fun j hj => by omega) ?_
  · intro _ x y hx hy h
    obtain ⟨_, h2, h3⟩ := eqR_succ.1 (hR x y hx hy h)
    refine ⟨h2, fun x' y' hm => ?_⟩
    obtain ⟨i, hi, he⟩ := List.mem_map.1 hm
    rw [List.mem_range] at hi
    obtain ⟨rfl, rfl⟩ := mkP_inj he
    exact h3 i hi
  · intro o _ hab hcl
    have key : ∀ r x y, mkP x y ∈ o → eqR g r x y = true := by
      intro r
      induction r with
      | zero => intro _ _ _; rfl
      | succ r ih =>
        intro x y hm
        obtain ⟨h1, h2⟩ := hcl x y hm
        exact eqR_succ.2 ⟨ih x y hm, h1, fun i hi => ih _ _ (h2 _ (List.mem_map.2 ⟨i, List.mem_range.2 hi, rfl⟩))⟩
    exact key R a b hab
  · intro hT x y hm
    obtain ⟨rfl, rfl⟩ := mkP_inj (List.mem_singleton.1 hm)
    exact hT
def inG (g : NdG) (a : Int) : Bool := decide (0 ≤ a ∧ a < (g.length : Int))
theorem isNode_f (g : NdG) (a : Int) : spec_l1IsNode.f g a = some (inG g a) := by
  unfold spec_l1IsNode.f inG
  by_cases h : a ≥ 0
  · rw [if_pos h]
    exact congrArg some (decide_eq_decide.2 ⟨fun k => ⟨h, k⟩, fun k => k.2⟩)
  · rw [if_neg h, decide_eq_false (fun k => h k.1)]
theorem has_ev (g : NdG) (hs : ∀ x ∈ g, smNode' x) (a b : Int) : Ev (fun k => impl_Graph_has.f k g [a, b]) (inG g a && inG g b && vgB g) := by
  have stop : ∀ (j : Nat) (x : Int), ([a, b] : List Int)[j]? = some x → inG g x = false → Ev (fun k => impl_Graph_has.l0 k [a, b] 2 (j : Int) g) false := fun j x hj hx => by
    have hjl : j < 2 := (List.getElem?_eq_some_iff.1 hj).1
    have e : rd [a, b] (j : Int) = x := by unfold rd; rw [Int.toNat_natCast, List.getD_eq_getElem?_getD, hj]; rfl
    refine Ev.shift ?_
    simp only [impl_Graph_has.l0, if_pos (show (j : Int) < 2 by omega), if_pos (show (0 : Int) ≤ (j : Int) by omega), List.length_cons, List.length_nil, if_pos (show (j : Int) < ((0 + 1 + 1 : Nat) : Int) by omega), e]
    unfold inG at hx
    have hx' := of_decide_eq_false hx
    by_cases h : x < 0
    · simp only [if_pos h]; exact Ev.now _
    · simp only [if_neg h, if_pos (show x ≥ (g.length : Int) by omega)]; exact Ev.now _
  have next : ∀ (j : Nat) (x : Int) (r : Bool), ([a, b] : List Int)[j]? = some x → inG g x = true → Ev (fun k => impl_Graph_has.l0 k [a, b] 2 ((j + 1 : Nat) : Int) g) r → Ev (fun k => impl_Graph_has.l0 k [a, b] 2 (j : Int) g) r := fun j x r hj hx hr => by
    have hjl : j < 2 := (List.getElem?_eq_some_iff.1 hj).1
    have e : rd [a, b] (j : Int) = x := by unfold rd; rw [Int.toNat_natCast, List.getD_eq_getElem?_getD, hj]; rfl
    have hx' := of_decide_eq_true hx
    refine Ev.shift ?_
    simp only [impl_Graph_has.l0, if_pos (show (j : Int) < 2 by omega), if_pos (show (0 : Int) ≤ (j : Int) by omega), List.length_cons, List.length_nil, if_pos (show (j : Int) < ((0 + 1 + 1 : Nat) : Int) by omega), e, if_neg (show ¬ x < 0 by omega), if_neg (show ¬ x ≥ (g.length : Int) by omega), wrap_nat j (by omega)]
    exact hr
  unfold impl_Graph_has.f
  cases ha : inG g a with
  | false => simp only [Bool.false_and]; exact stop 0 a rfl ha
  | true =>
    refine next 0 a _ rfl ha ?_
    cases hb : inG g b with
    | false => simp only [Bool.true_and, Bool.false_and]; exact stop 1 b rfl hb
    | true =>
      simp only [Bool.true_and]
      refine next 1 b _ rfl hb (Ev.shift ?_)
      simp only [impl_Graph_has.l0, if_neg (show ¬ (((1 + 1 : Nat) : Int)) < 2 by omega)]
      exact Ev.bind (implValidGraph g hs) (Ev.now _)
/-- What Same answers, R being the depth at which the classes stand still. -/
theorem same_both (g : NdG) (hs : ∀ x ∈ g, smNode' x) (a b : Int) : ∃ r, Ev (fun k => spec_Same.f k g a b) r ∧ Ev (fun k => impl_Same.f k g a b) r := by
  by_cases hv : vgB g = true
  case neg =>
    have hv' : vgB g = false := by simpa using hv
    refine ⟨false, ?_, ?_⟩
    · unfold spec_Same.f
      refine Ev.bind (specValidGraph g hs) ?_
      rw [hv']
      simp only [Bool.false_eq_true, if_false]
      exact Ev.now _
    · unfold impl_Same.f
      refine Ev.bind (has_ev g hs a b) ?_
      rw [hv', Bool.and_false]
      simp only [Bool.false_eq_true, if_false]
      exact Ev.now _
  by_cases hin : inG g a = true ∧ inG g b = true
  case neg =>
    refine ⟨false, ?_, ?_⟩
    · unfold spec_Same.f
      refine Ev.bind (specValidGraph g hs) ?_
      rw [hv]
      simp only [if_true, isNode_f, Option.bind_some]
      cases ha : inG g a with
      | false => simp only [Bool.false_eq_true, if_false]; exact Ev.now _
      | true =>
        cases hb : inG g b with
        | false => simp only [if_true, Bool.false_eq_true, if_false]; exact Ev.now _
        | true => exact absurd ⟨ha, hb⟩ hin
    · unfold impl_Same.f
      refine Ev.bind (has_ev g hs a b) ?_
      rw [show (inG g a && inG g b && vgB g) = false by
        cases ha : inG g a with
        | false => rfl
        | true =>
          cases hb : inG g b with
          | false => rfl
          | true => exact absurd ⟨ha, hb⟩ hin]
      simp only [Bool.false_eq_true, if_false]
      exact Ev.now _
  obtain ⟨ha, hb⟩ := hin
  have ha' := of_decide_eq_true ha
  have hb' := of_decide_eq_true hb
  obtain ⟨x, rfl⟩ : ∃ x : Nat, a = (x : Int) := ⟨a.toNat, by omega⟩
  obtain ⟨y, rfl⟩ : ∃ y : Nat, b = (y : Int) := ⟨b.toNat, by omega⟩
  have hn := vg_len hv
  obtain ⟨cl, R, hcl, hc, hR⟩ := specClasses hv hs (show 0 < g.length by omega)
  have hcl1 := hc.len
  refine ⟨eqR g R x y, ?_, ?_⟩
  · unfold spec_Same.f
    refine Ev.bind (specValidGraph g hs) ?_
    rw [hv]
    simp only [if_true, isNode_f, Option.bind_some, ha, hb]
    refine Ev.bind hcl ?_
    simp only [if_pos (show (0 : Int) ≤ (x : Int) by omega), if_pos (show (x : Int) < (cl.length : Int) by omega), if_pos (show (0 : Int) ≤ (y : Int) by omega), if_pos (show (y : Int) < (cl.length : Int) by omega)]
    refine Ev.const (congrArg some ?_)
    rw [Bool.eq_iff_iff, beq_iff_eq]
    exact hc.eqv x y (by omega) (by omega)
  · unfold impl_Same.f
    refine Ev.bind (has_ev g hs _ _) ?_
    rw [ha, hb, hv]
    simp only [Bool.and_self, if_true, if_pos (show (-9223372036854775808 ≤ (x : Int) ∧ (x : Int) ≤ 9223372036854775807) ∧ (-9223372036854775808 ≤ (y : Int) ∧ (y : Int) ≤ 9223372036854775807) from ⟨⟨by omega, by omega⟩, ⟨by omega, by omega⟩⟩)]
    exact same_all hv hs hR (by omega) (by omega)
theorem same_true (l : List S173) (a b : Int) (hl : l.length ≤ maxLen) (hz : ∀ s ∈ l, q173 s) (_ : (Lit.int .i64 a).wf = true) (_ : (Lit.int .i64 b).wf = true) : Ev (fun k => laws_FnExactSame.f k l a b) true := by
  unfold laws_FnExactSame.f
  obtain ⟨t, hev, ht⟩ := szGraph_ev l 1048576 (by omega) (by omega) hl hz
  refine Ev.bind hev ?_
  by_cases c : t < 0
  · simp only [if_pos c]; exact Ev.now _
  simp only [if_neg c]
  obtain ⟨_, _, hl1, hz1⟩ := ht.resolve_left c
  have hto := toGraph_ev l hl1 hz1
  have hs := smNode_conv hz1
  obtain ⟨r, h1, h2⟩ := same_both (l.map convNode) hs a b
  refine Ev.bind hto (Ev.bind h1 (Ev.bind hto (Ev.bind h2 ?_)))
  simp only [bne_self_eq_false, Bool.false_eq_true, if_false]
  refine Ev.bind hto (Ev.bind (eqGraph_ev _ (by simpa using hl1) hs) ?_)
  simp only [if_true]
  exact Ev.now _
end Go.Proofs.YtnbohlcibgfjaaaDoor.Gp
end
