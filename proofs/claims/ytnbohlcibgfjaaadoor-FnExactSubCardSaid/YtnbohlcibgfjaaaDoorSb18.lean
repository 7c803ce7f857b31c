/- A part of the proof of RowFnExactSub: each text's theorems that it needs, packed by shake.py, a program of this work; Lean checks them. -/
import Derived.Test.YtnbohlcibgfjaaaDoorSb10
import Derived.Test.YtnbohlcibgfjaaaDoorSb17
import Derived.Test.YtnbohlcibgfjaaaDoorSb13
import Derived.Test.YtnbohlcibgfjaaaDoorSb11
section
namespace Go.Proofs.YtnbohlcibgfjaaaDoor.Gp
open Go.RowKit Go.Proofs.YtnbohlcibgfjaaaDoorW.PrintWords
/-- The reference's list of pairs, and which pairs it has met. -/
structure Rep (n : Nat) (L : List DmT) (met : List Bool) (o : List PrT) : Prop where
  lst : L.map dmP = o
  len : met.length = n * n
  met : ∀ x y, x < n → y < n → (rdOf false met ((x * n + y : Nat) : Int) = true ↔ mkP x y ∈ o)
theorem ix_lt {n x y : Nat} (hx : x < n) (hy : y < n) : x * n + y < n * n := by
  have h2 : (x + 1) * n ≤ n * n := Nat.mul_le_mul_right _ hx
  rw [Nat.succ_mul] at h2
  omega
theorem ix_inj {n x y x' y' : Nat} (hy : y < n) (hy' : y' < n) (e : x * n + y = x' * n + y') : x = x' ∧ y = y' := by
  have e1 : x = x' := by
    have a1 : (x * n + y) / n = x := by rw [Nat.mul_comm, Nat.mul_add_div (by omega), Nat.div_eq_of_lt hy, Nat.add_zero]
    have a2 : (x' * n + y') / n = x' := by rw [Nat.mul_comm, Nat.mul_add_div (by omega), Nat.div_eq_of_lt hy', Nat.add_zero]
    rw [← a1, e, a2]
  subst e1
  exact ⟨rfl, by omega⟩
theorem ix_wrap {n x y : Nat} (hn : n ≤ 4000) (hx : x < n) (hy : y < n) : wrap64 ((wrap64 ((x : Int) * (n : Int))) + (y : Int)) = ((x * n + y : Nat) : Int) := by
  have h1 := ix_lt hx hy
  have h2 : n * n ≤ 4000 * 4000 := Nat.mul_le_mul hn hn
  have e : (x : Int) * (n : Int) = ((x * n : Nat) : Int) := by rw [Int.natCast_mul]
  rw [e]
  obtain ⟨m, hm⟩ : ∃ m, m = x * n := ⟨_, rfl⟩
  rw [← hm] at h1 ⊢
  obtain ⟨p, hp⟩ : ∃ p, p = n * n := ⟨_, rfl⟩
  rw [← hp] at h1 h2
  unfold wrap64
  omega
theorem Rep.add {n : Nat} {L : List DmT} {met : List Bool} {o : List PrT} (h : Rep n L met o) {x y : Nat} (hx : x < n) (hy : y < n) (hm : mkP x y ∉ o) : Rep n (L ++ [pD x y]) (met.set (x * n + y) true) (addP o (mkP x y)) := by
  rw [addP_out hm]
  refine ⟨?_, by rw [List.length_set]; exact h.len, fun x' y' hx' hy' => ?_⟩
  · rw [List.map_append, h.lst]; rfl
  · have h0 := h.met x' y' hx' hy'
    have hl := ix_lt hx' hy'
    have hlm := h.len
    unfold rdOf at h0 ⊢
    rw [Int.toNat_natCast] at h0 ⊢
    rw [List.getD_eq_getElem?_getD] at h0 ⊢
    by_cases e : x * n + y = x' * n + y'
    · obtain ⟨rfl, rfl⟩ := ix_inj hy hy' e
      rw [List.getElem?_set_self (by omega)]
      exact ⟨fun _ => List.mem_append.2 (.inr (List.mem_singleton.2 rfl)), fun _ => rfl⟩
    · rw [List.getElem?_set_ne e, h0]
      rw [List.mem_append, List.mem_singleton]
      exact ⟨.inl, fun q => q.elim id (fun q => by
        obtain ⟨rfl, rfl⟩ := mkP_inj q
        exact absurd rfl e)⟩
theorem l1_add {g : NdG} (hn : g.length ≤ 4000) (i : Nat) (D : List DmT) (hD : ∀ q ∈ D, ∃ x y, q = pD x y ∧ x < g.length ∧ y < g.length) (hDl : D.length ≤ 1048576) (T : Bool) :
    ∀ (d j : Nat) (L : List DmT) (met : List Bool) (o : List PrT), D.length - j = d → j ≤ D.length → i < L.length → Rep g.length L met o → OkO g.length o →
      (∀ L' met', Rep g.length L' met' (((D.drop j).map dmP).foldl addP o) → Ev (fun k => spec_l1Sub.l0 k L' (g.length : Int) met' ((i + 1 : Nat) : Int) g) T) →
      Ev (fun k => spec_l1Sub.l1 k L (g.length : Int) met (i : Int) D (j : Int) g) T := by
  have hnn : g.length * g.length ≤ 4000 * 4000 := Nat.mul_le_mul hn hn
  intro d
  induction d with
  | zero =>
    intro j L met o hd hj hi hR hO hT
    obtain rfl : j = D.length := by omega
    have hlen := hO.len
    have hLl : L.length = o.length := by rw [← hR.lst, List.length_map]
    refine Ev.shift ?_
    simp only [spec_l1Sub.l1, if_neg (show ¬ (D.length : Int) < (D.length : Int) by omega), wrap_nat i (by omega)]
    exact hT L met (by rw [List.drop_of_length_le (Nat.le_refl _)]; exact hR)
  | succ d ih =>
    intro j L met o hd hj hi hR hO hT
    have hlen := hO.len
    have hLl : L.length = o.length := by rw [← hR.lst, List.length_map]
    have hlt : j < D.length := by omega
    obtain ⟨x, y, hq, hx, hy⟩ := hD _ (List.getElem_mem hlt)
    have hrd : rd_T186 D (j : Int) = pD x y := by
      unfold rd_T186
      rw [Int.toNat_natCast, List.getD_eq_getElem?_getD, List.getElem?_eq_getElem hlt]
      exact hq
    have hdrop : D.drop j = pD x y :: D.drop (j + 1) := by rw [List.drop_eq_getElem_cons hlt, hq]
    rw [hdrop] at hT
    have hil := ix_lt hx hy
    have hml := hR.len
    have hmt := hR.met x y hx hy
    have q1 : (0 : Int) ≤ ((x * g.length + y : Nat) : Int) := Int.natCast_nonneg _
    have q2 : ((x * g.length + y : Nat) : Int) < (met.length : Int) := by rw [hml]; exact Int.ofNat_lt.2 hil
    have q3 : L.length < 8796093022208 := by omega
    have q40 : j < 9223372036854775807 := by omega
    have q5 : (j : Int) < (D.length : Int) := by omega
    have q6 : (0 : Int) ≤ (j : Int) := Int.natCast_nonneg _
    have q7 : D.length - (j + 1) = d := by omega
    have q8 : i < (L ++ [pD x y]).length := by rw [List.length_append]; omega
    clear hlen hLl hd hml hil hnn
    have q4 := wrap_nat j q40
    have hix := ix_wrap hn hx hy
    refine Ev.shift ?_
    simp only [spec_l1Sub.l1, if_pos q5, if_pos q6, hrd, pD, hix, if_pos q1, if_pos q2, q4]
    by_cases hm : mkP x y ∈ o
    · simp only [if_pos (hmt.2 hm)]
      have hT' : ∀ L' met', Rep g.length L' met' (((D.drop (j + 1)).map dmP).foldl addP o) → Ev (fun k => spec_l1Sub.l0 k L' (g.length : Int) met' ((i + 1 : Nat) : Int) g) T := fun L' met' h => hT L' met' (by
        rw [List.map_cons, List.foldl_cons, show addP o (dmP (pD x y)) = o from addP_in hm]
        exact h)
      exact ih (j + 1) L met o q7 hlt hi hR hO hT'
    · simp only [if_neg (fun q => hm (hmt.1 q)), if_pos q3, Int.toNat_natCast]
      exact ih (j + 1) _ _ (addP o (mkP x y)) q7 hlt q8 (hR.add hx hy hm) (hO.add hx hy) hT
end Go.Proofs.YtnbohlcibgfjaaaDoor.Gp
end
section
namespace Go.Proofs.YtnbohlcibgfjaaaDoor.Gp
open Go.RowKit Go.Proofs.YtnbohlcibgfjaaaDoorW.PrintWords
theorem demD_len {g : NdG} (hs : ∀ x ∈ g, smNode' x) {x y : Nat} (hy : y < g.length) : (demD g x y).length ≤ 1048576 := by
  have sy : smNode' (nd g y) := hs _ (rd_mem_nd g hy)
  unfold demD
  repeat' split
  · exact Nat.zero_le _
  · exact Nat.zero_le _
  · exact (by decide : (2 : Nat) ≤ 1048576)
  · unfold recD
    rw [List.length_map, List.length_range]
    exact sy.1
  · exact Nat.zero_le _
/-- Both searches come to the same answer. -/
theorem sub_search {g : NdG} (hv : vgB g = true) (hs : ∀ x ∈ g, smNode' x) {a b : Nat} (ha : a < g.length) (hb : b < g.length) : ∃ T, Ev (fun k => spec_l1Sub.f k g (a : Int) (b : Int)) T ∧ Ev (fun k => all_l (sub_st g) k [mkP a b] 0) T := by
  have hn := vg_len hv
  have hnn : g.length * g.length ≤ 4000 * 4000 := Nat.mul_le_mul hn hn
  have hO1 : OkO g.length [mkP a b] := ⟨by simp, fun q hq => ⟨a, b, List.mem_singleton.1 hq, ha, hb⟩⟩
  obtain ⟨T, hT⟩ := two_search (n := g.length) (goodS g) (demP g) (fun x y hx hy hg => demP_ok hv hx hy hg) _ 0 [mkP a b] rfl (Nat.zero_le _) hO1
  refine ⟨T, ?_, ?_⟩
  · have key : ∀ L met, Rep g.length L met [mkP a b] → Ev (fun k => spec_l1Sub.l0 k L (g.length : Int) met ((0 : Nat) : Int) g) T := by
      refine hT (fun i o T => ∀ L met, Rep g.length L met o → Ev (fun k => spec_l1Sub.l0 k L (g.length : Int) met (i : Int) g) T) ?_ ?_ ?_
      · intro o hO L met hR
        have hLl : L.length = o.length := by rw [← hR.lst, List.length_map]
        refine Ev.shift ?_
        simp only [spec_l1Sub.l0, if_neg (show ¬ (o.length : Int) < (L.length : Int) by omega)]
        exact Ev.now _
      · intro i o x y T hi hO hx hy hq hg hrun L met hR
        have hLl : L.length = o.length := by rw [← hR.lst, List.length_map]
        have hd := demands_ev hv hs x y hx hy
        rw [if_pos hg] at hd
        have hr : dmP (rd_T186 L (i : Int)) = mkP x y := by
          rw [← hq, ← hR.lst]
          unfold rd_T186
          rw [Int.toNat_natCast, List.getD_eq_getElem?_getD, List.getD_eq_getElem?_getD, List.getElem?_eq_getElem (by omega), List.getElem?_eq_getElem (by rw [List.length_map]; omega), List.getElem_map]
          rfl
        have hr0 : (rd_T186 L (i : Int)).f0 = (x : Int) := congrArg S141.f0 hr
        have hr1 : (rd_T186 L (i : Int)).f1 = (y : Int) := congrArg S141.f1 hr
        refine Ev.shift ?_
        simp only [spec_l1Sub.l0, if_pos (show (i : Int) < (L.length : Int) by omega), if_pos (show (0 : Int) ≤ (i : Int) by omega), hr0, hr1]
        refine Ev.bind hd ?_
        simp only [if_true]
        exact l1_add hn i (demD g x y) (demD_ok hv hx hy hg) (demD_len hs hy) T _ 0 L met o rfl (Nat.zero_le _) (by omega) hR hO hrun
      · intro i o x y hi hO hx hy hq hg L met hR
        have hLl : L.length = o.length := by rw [← hR.lst, List.length_map]
        have hd := demands_ev hv hs x y hx hy
        rw [if_neg (by rw [hg]; simp)] at hd
        obtain ⟨D, hd⟩ := hd
        have hr : dmP (rd_T186 L (i : Int)) = mkP x y := by
          rw [← hq, ← hR.lst]
          unfold rd_T186
          rw [Int.toNat_natCast, List.getD_eq_getElem?_getD, List.getD_eq_getElem?_getD, List.getElem?_eq_getElem (by omega), List.getElem?_eq_getElem (by rw [List.length_map]; omega), List.getElem_map]
          rfl
        have hr0 : (rd_T186 L (i : Int)).f0 = (x : Int) := congrArg S141.f0 hr
        have hr1 : (rd_T186 L (i : Int)).f1 = (y : Int) := congrArg S141.f1 hr
        refine Ev.shift ?_
        simp only [spec_l1Sub.l0, if_pos (show (i : Int) < (L.length : Int) by omega), if_pos (show (0 : Int) ≤ (i : Int) by omega), hr0, hr1]
        refine Ev.bind hd ?_
        simp only [Bool.false_eq_true, if_false]
        exact Ev.now _
    have hil := ix_lt ha hb
    have q1 : (0 : Int) ≤ ((g.length * g.length : Nat) : Int) := Int.natCast_nonneg _
    have q2 : g.length * g.length ≤ 281474976710656 := by omega
    have q3 : (0 : Int) ≤ ((a * g.length + b : Nat) : Int) := Int.natCast_nonneg _
    have q4 : ((a * g.length + b : Nat) : Int) < ((g.length * g.length : Nat) : Int) := Int.ofNat_lt.2 hil
    have hw : wrap64 ((g.length : Int) * (g.length : Int)) = ((g.length * g.length : Nat) : Int) := by
      rw [← Int.natCast_mul]
      unfold wrap64
      obtain ⟨p, hp⟩ : ∃ p, p = g.length * g.length := ⟨_, rfl⟩
      rw [← hp] at hnn ⊢
      omega
    have hix := ix_wrap hn ha hb
    unfold spec_l1Sub.f
    simp only [hw, Int.toNat_natCast, if_pos q1, if_pos q2, Option.bind_some, hix, List.length_replicate, if_pos q3, if_pos q4]
    have hR0 : Rep g.length [] (List.replicate (g.length * g.length) false) [] := ⟨rfl, List.length_replicate, fun x y hx hy => by
      have := ix_lt hx hy
      unfold rdOf
      rw [Int.toNat_natCast, List.getD_eq_getElem?_getD, List.getElem?_replicate, if_pos this]
      simp⟩
    exact key [pD a b] _ (hR0.add ha hb (by simp))
  · refine hT (fun i o T => Ev (fun k => all_l (sub_st g) k o i) T) ?_ ?_ ?_
    · intro o hO
      have hlen := hO.len
      refine Ev.shift ?_
      simp only [all_l, if_pos (show o.length < 1099511627776 by omega), if_neg (Nat.lt_irrefl _)]
      exact Ev.now _
    · intro i o x y T hi hO hx hy hq hg hrun
      have hlen := hO.len
      have hst := sub_step_ev hv hs x y o hx hy hO
      rw [if_pos hg] at hst
      have hrd : rd_T141 o (i : Int) = mkP x y := hq
      refine Ev.shift ?_
      simp only [all_l, if_pos (show o.length < 1099511627776 by omega), if_pos hi, hrd]
      refine Ev.bind hst ?_
      simp only [if_true]
      exact hrun
    · intro i o x y hi hO hx hy hq hg
      have hlen := hO.len
      have hst := sub_step_ev hv hs x y o hx hy hO
      rw [if_neg (by rw [hg]; simp)] at hst
      obtain ⟨o', hst⟩ := hst
      have hrd : rd_T141 o (i : Int) = mkP x y := hq
      refine Ev.shift ?_
      simp only [all_l, if_pos (show o.length < 1099511627776 by omega), if_pos hi, hrd]
      refine Ev.bind hst ?_
      simp only [Bool.false_eq_true, if_false]
      exact Ev.now _
theorem bind_id {α : Type} {f : Nat → Option α} {r : α} (h : Ev f r) : Ev (fun k => (f k).bind fun t => some t) r := by
  obtain ⟨K, hK⟩ := h
  exact ⟨K, fun k hk => by
    show (f k).bind _ = _
    rw [hK k hk]
    rfl⟩
theorem node_if (g : NdG) (a : Int) (ha : inG g a = true) (X : Option Bool) : ((spec_l1IsNode.f g a).bind fun t => (if t = true then X else (some false))) = X := by
  rw [isNode_f, ha]
  rfl
theorem sub_spec_in (g : NdG) (hs : ∀ x ∈ g, smNode' x) (hv : vgB g = true) (a b : Int) (ha : inG g a = true) (hb : inG g b = true) (T : Bool) (hT : Ev (fun k => spec_l1Sub.f k g a b) T) : Ev (fun k => spec_Sub.f k g a b) T := by
  have h1 := specValidGraph g hs
  rw [hv] at h1
  have h2 := bind_id hT
  obtain ⟨K1, hK1⟩ := h1
  obtain ⟨K2, hK2⟩ := h2
  refine ⟨max K1 K2, fun k hk => ?_⟩
  have l1 : K1 ≤ k := Nat.le_trans (Nat.le_max_left _ _) hk
  have l2 : K2 ≤ k := Nat.le_trans (Nat.le_max_right _ _) hk
  have e1 : spec_ValidGraph.f k g = some true := hK1 k l1
  have e2 : ((spec_l1Sub.f k g a b).bind fun t => some t) = some T := hK2 k l2
  show spec_Sub.f k g a b = some T
  unfold spec_Sub.f
  rw [e1, Option.bind_some, if_pos rfl, node_if g a ha, node_if g b hb]
  exact e2
theorem sub_impl_in (g : NdG) (hs : ∀ x ∈ g, smNode' x) (hv : vgB g = true) (a b : Int) (ha : inG g a = true) (hb : inG g b = true) (hok : (-9223372036854775808 ≤ a ∧ a ≤ 9223372036854775807) ∧ (-9223372036854775808 ≤ b ∧ b ≤ 9223372036854775807)) (T : Bool) (hT : Ev (fun k => all_l (sub_st g) k [⟨a, b, 0⟩] 0) T) : Ev (fun k => impl_Sub.f k g a b) T := by
  unfold impl_Sub.f
  refine Ev.bind (has_ev g hs _ _) ?_
  rw [ha, hb, hv]
  simp only [Bool.and_self, if_true, if_pos hok]
  exact hT
theorem sub_spec_out (g : NdG) (hs : ∀ x ∈ g, smNode' x) (a b : Int) (h : ¬ (vgB g = true ∧ inG g a = true ∧ inG g b = true)) : Ev (fun k => spec_Sub.f k g a b) false := by
  unfold spec_Sub.f
  refine Ev.bind (specValidGraph g hs) ?_
  cases hv : vgB g with
  | false => simp only [Bool.false_eq_true, if_false]; exact Ev.now _
  | true =>
    simp only [if_true, isNode_f, Option.bind_some]
    cases ha : inG g a with
    | false => simp only [Bool.false_eq_true, if_false]; exact Ev.now _
    | true =>
      cases hb : inG g b with
      | false => simp only [if_true, Bool.false_eq_true, if_false]; exact Ev.now _
      | true => exact absurd ⟨hv, ha, hb⟩ h
theorem sub_impl_out (g : NdG) (hs : ∀ x ∈ g, smNode' x) (a b : Int) (h : ¬ (vgB g = true ∧ inG g a = true ∧ inG g b = true)) : Ev (fun k => impl_Sub.f k g a b) false := by
  have e : (inG g a && inG g b && vgB g) = false := Bool.eq_false_iff.2 (fun q => by
    rw [Bool.and_eq_true, Bool.and_eq_true] at q
    exact h ⟨q.2, q.1.1, q.1.2⟩)
  unfold impl_Sub.f
  refine Ev.bind (has_ev g hs a b) ?_
  rw [e]
  simp only [Bool.false_eq_true, if_false]
  exact Ev.now _
theorem inG_nat {g : NdG} {a : Int} (h : inG g a = true) : ∃ x : Nat, a = (x : Int) ∧ x < g.length := by
  unfold inG at h
  have h' := of_decide_eq_true h
  exact ⟨a.toNat, by omega, by omega⟩
theorem okP (x y n : Nat) (hx : x < n) (hy : y < n) (hn : n ≤ 4000) : (-9223372036854775808 ≤ (x : Int) ∧ (x : Int) ≤ 9223372036854775807) ∧ (-9223372036854775808 ≤ (y : Int) ∧ (y : Int) ≤ 9223372036854775807) := by omega
theorem sub_both (g : NdG) (hs : ∀ x ∈ g, smNode' x) (a b : Int) : ∃ r, Ev (fun k => spec_Sub.f k g a b) r ∧ Ev (fun k => impl_Sub.f k g a b) r := by
  by_cases h : vgB g = true ∧ inG g a = true ∧ inG g b = true
  case neg => exact ⟨false, sub_spec_out g hs a b h, sub_impl_out g hs a b h⟩
  obtain ⟨hv, ha, hb⟩ := h
  obtain ⟨x, rfl, hx⟩ := inG_nat ha
  obtain ⟨y, rfl, hy⟩ := inG_nat hb
  obtain ⟨T, hT1, hT2⟩ := sub_search hv hs hx hy
  exact ⟨T, sub_spec_in g hs hv _ _ ha hb T hT1, sub_impl_in g hs hv _ _ ha hb (okP x y _ hx hy (vg_len hv)) T hT2⟩
theorem sub_true (l : List S173) (a b : Int) (hl : l.length ≤ maxLen) (hz : ∀ s ∈ l, q173 s) (_ : (Lit.int .i64 a).wf = true) (_ : (Lit.int .i64 b).wf = true) : Ev (fun k => laws_FnExactSub.f k l a b) true := by
  unfold laws_FnExactSub.f
  obtain ⟨t, hev, ht⟩ := szGraph_ev l 1048576 (by omega) (by omega) hl hz
  refine Ev.bind hev ?_
  by_cases c : t < 0
  · simp only [if_pos c]; exact Ev.now _
  simp only [if_neg c]
  obtain ⟨_, _, hl1, hz1⟩ := ht.resolve_left c
  have hto := toGraph_ev l hl1 hz1
  have hs := smNode_conv hz1
  obtain ⟨r, h1, h2⟩ := sub_both (l.map convNode) hs a b
  refine Ev.bind hto (Ev.bind h1 (Ev.bind hto (Ev.bind h2 ?_)))
  simp only [bne_self_eq_false, Bool.false_eq_true, if_false]
  refine Ev.bind hto (Ev.bind (eqGraph_ev _ (by simpa using hl1) hs) ?_)
  simp only [if_true]
  exact Ev.now _
end Go.Proofs.YtnbohlcibgfjaaaDoor.Gp
end
