/- Graphs as the laws hand them over: measured, copied, compared with themselves. -/
import Derived.Test.YtiicaoiijhodkaaDoorGp6
import Derived.Test.YtiicaoiijhodkaaDoorGp9
import Derived.Test.YtiicaoiijhodkaaDoorGp12
import Derived.Test.YtiicaoiijhodkaaDoorGp11
import Derived.Test.YtiicaoiijhodkaaDoorPureBasics
import Derived.Test.YtiicaoiijhodkaaDoorOpns
namespace Go.Proofs.YtiicaoiijhodkaaDoor.Gp
open Go.RowKit Go.Proofs.YtiicaoiijhodkaaDoorW.PrintWords

/-- A node that is small. -/
def smNode (x : S94) : Prop := x.f1.length ≤ 1048576 ∧ x.f2.length ≤ 1048576 ∧ ∀ s ∈ x.f1, s.size ≤ 1048576
theorem szNode_ev (x : S94) (left : Int) (h0 : 0 ≤ left) (h1 : left ≤ 1048576) (hq : q94 x) :
    ∃ t, Ev (fun k => laws_szNode.f k x.f0 x.f1 x.f2 left) t ∧ (t < 0 ∨ (0 ≤ t ∧ t ≤ left ∧ smNode x)) := by
  obtain ⟨_, ⟨hl1, hz1⟩, hl2, _⟩ := hq
  unfold laws_szNode.f
  obtain ⟨t, hev, ht⟩ := szStringS_ev x.f1 left h0 h1 hl1 hz1
  by_cases c : t < 0
  · refine ⟨-1, Ev.bind hev ?_, .inl (by omega)⟩
    simp only [if_pos c]
    exact Ev.now _
  obtain ⟨ht0, ht1, hs1, hs2⟩ := ht.resolve_left c
  obtain ⟨u, hu, hc⟩ := szIntS_ev x.f2 t ht0 (by omega) hl2
  by_cases cu : u < 0
  · refine ⟨-1, Ev.bind hev ?_, .inl (by omega)⟩
    simp only [if_neg c, hu, Option.bind_some, if_pos cu]
    exact Ev.now _
  obtain ⟨hu0, hu1, hu2⟩ := hc.resolve_left cu
  refine ⟨u, Ev.bind hev ?_, .inr ⟨hu0, by omega, hs1, hu2, hs2⟩⟩
  simp only [if_neg c, hu, Option.bind_some, if_neg cu]
  exact Ev.now _
theorem szNodeS_ev (l : List S94) (left : Int) (h0 : 0 ≤ left) (h1 : left ≤ 1048576) (hl : l.length ≤ maxLen) (hz : ∀ s ∈ l, q94 s) :
    ∃ t, Ev (fun k => laws_szNodeS.f k l left) t ∧ (t < 0 ∨ (0 ≤ t ∧ t ≤ left ∧ l.length ≤ 1048576 ∧ ∀ s ∈ l, smNode s)) := by
  unfold maxLen at hl
  unfold laws_szNodeS.f
  have e1 : wrap64 (left - (l.length : Int)) = left - l.length := by unfold wrap64; omega
  rw [e1]
  by_cases c1 : left - (l.length : Int) < 0
  · simp only [if_pos c1]
    exact ⟨-1, Ev.now _, .inl (by omega)⟩
  simp only [if_neg c1]
  obtain ⟨t, ht, hev⟩ := sz_loop z94 (fun k s left => laws_szNode.f k s.f0 s.f1 s.f2 left) laws_szNodeS.l0 1048576 (fun _ _ _ _ => rfl) q94 smNode szNode_ev l (by omega) hz (left - (l.length : Int)) (by omega) (by omega)
  exact ⟨t, hev, ht.imp id (fun h => ⟨h.1, by omega, by omega, h.2.2⟩)⟩
theorem szGraph_ev (l : List S94) (left : Int) (h0 : 0 ≤ left) (h1 : left ≤ 1048576) (hl : l.length ≤ maxLen) (hz : ∀ s ∈ l, q94 s) :
    ∃ t, Ev (fun k => laws_szGraph.f k l left) t ∧ (t < 0 ∨ (0 ≤ t ∧ t ≤ left ∧ l.length ≤ 1048576 ∧ ∀ s ∈ l, smNode s)) := by
  unfold laws_szGraph.f
  obtain ⟨t, hev, ht⟩ := szNodeS_ev l left h0 h1 hl hz
  by_cases c : t < 0
  · refine ⟨-1, Ev.bind hev ?_, .inl (by omega)⟩
    simp only [if_pos c]
    exact Ev.now _
  refine ⟨t, Ev.bind hev ?_, ht⟩
  simp only [if_neg c]
  exact Ev.now _
def convNode (x : S94) : S68 := ⟨x.f0, x.f1, x.f2⟩
theorem toNodeS_ev (l : List S94) (hl : l.length ≤ 1048576) (hs : ∀ s ∈ l, smNode s) : Ev (fun k => laws_toNodeS.f k l) (l.map convNode) := by
  unfold laws_toNodeS.f
  simp only [if_pos (show 0 ≤ (l.length : Int) by omega), Int.toNat_natCast, if_pos (show l.length ≤ 5026338869833 by omega)]
  refine to_loop z94 (fun k s => laws_toNode.f k s.f0 s.f1 s.f2) (fun t => (⟨t.1, t.2.1, t.2.2⟩ : S68)) laws_toNodeS.l0 (fun _ _ _ _ => rfl) convNode l (fun x hx => ⟨(x.f0, x.f1, x.f2), ?_, rfl⟩) (by omega) _ (by simp)
  obtain ⟨h1, h2, _⟩ := hs x hx
  unfold laws_toNode.f
  exact Ev.bind (toStringS_ev _ h1) (Ev.bind (toIntS_ev _ h2) (Ev.now _))
theorem toGraph_ev (l : List S94) (hl : l.length ≤ 1048576) (hs : ∀ s ∈ l, smNode s) : Ev (fun k => laws_toGraph.f k l) (l.map convNode) := by
  unfold laws_toGraph.f
  exact Ev.bind (toNodeS_ev l hl hs) (Ev.now _)
def smNode' (x : S68) : Prop := x.f1.length ≤ 1048576 ∧ x.f2.length ≤ 1048576 ∧ ∀ s ∈ x.f1, s.size ≤ 1048576
theorem smNode_conv {l : List S94} (h : ∀ s ∈ l, smNode s) : ∀ s ∈ l.map convNode, smNode' s := fun s hs => by
  obtain ⟨x, hx, rfl⟩ := List.mem_map.1 hs
  exact h x hx
theorem eqNode_ev (x : S68) (h : smNode' x) : Ev (fun k => laws_eqNode.f k x.f0 x.f1 x.f2 x.f0 x.f1 x.f2) true := by
  unfold laws_eqNode.f
  simp only [if_true]
  refine Ev.bind (eqStringS_ev _ h.1) ?_
  simp only [if_true]
  refine Ev.bind (eqIntS_ev _ h.2.1) ?_
  simp only [if_true]
  exact Ev.now _
theorem eqNodeS_ev (l : List S68) (hl : l.length ≤ 1048576) (h : ∀ s ∈ l, smNode' s) : Ev (fun k => laws_eqNodeS.f k l l) true := by
  unfold laws_eqNodeS.f
  simp only [if_true]
  exact eq_loop z68 (fun k x y => laws_eqNode.f k x.f0 x.f1 x.f2 y.f0 y.f1 y.f2) laws_eqNodeS.l0 (fun _ _ _ _ => rfl) l (fun x hx => eqNode_ev x (h x hx)) (by omega)
theorem eqGraph_ev (l : List S68) (hl : l.length ≤ 1048576) (h : ∀ s ∈ l, smNode' s) : Ev (fun k => laws_eqGraph.f k l l) true := by
  unfold laws_eqGraph.f
  refine Ev.bind (eqNodeS_ev l hl h) ?_
  simp only [if_true]
  exact Ev.now _
end Go.Proofs.YtiicaoiijhodkaaDoor.Gp
