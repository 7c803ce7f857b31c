/- A part of the proof of RowFnExactSub: each text's theorems that it needs, packed by shake.py, a program of this work; Lean checks them. -/
import Derived.Test.YtnbohlcibgfjaaaDoorSb2
import Derived.Test.YtnbohlcibgfjaaaDoorSb6
import Derived.DeepKeys5
import Derived.Maps.OwnSet
section
namespace Go.Proofs.YtnbohlcibgfjaaaDoor.Gp
open Go.RowKit Go.Proofs.YtnbohlcibgfjaaaDoorW.PrintWords Go.Proofs.YtnbohlcibgfjaaaDoorW.PrintLast Go.Proofs.YtnbohlcibgfjaaaDoorW.PrintMore
set_option linter.unusedVariables false
set_option linter.unusedSimpArgs false
def impl_Graph_has.l0 : Nat → List Int → Int → Int → List (S145) → Option (Bool)
  | 0, _, _, _, _ => none
  | k + 1, x7, x8, x9, x208000 => if x9 < x8 then (if 0 ≤ x9 then (if x9 < (x7.length : Int) then (if (rd x7 x9) < 0 then (some false) else (if (rd x7 x9) ≥ (x208000.length : Int) then (some false) else (impl_Graph_has.l0 k x7 x8 (wrap64 (x9 + 1)) x208000))) else (none)) else (none)) else ((impl_ValidGraph.f k x208000).bind fun t209 => (some t209))
def impl_Graph_has.f (k : Nat) (l0_0 : List (S145)) (l1 : List Int) : Option (Bool) := impl_Graph_has.l0 k l1 (l1.length : Int) 0 l0_0
set_option maxHeartbeats 8000000 in
set_option maxRecDepth 100000 in
theorem impl_Graph_has.calls (k : Nat) (A0_0 : Option Addr) (c0_0 : Nat) (l0_0 : List (S145)) (A1 : Option Addr) (c1 : Nat) (l1 : List Int) (r : Bool) (w : World) (hG : GRes w) (hr0_0 : Kd.C k145 w A0_0 l0_0.length l0_0) (hc0_0 : l0_0.length ≤ c0_0) (hr1 : Kd.C (Kd.int .i64) w A1 l1.length l1) (hc1 : l1.length ≤ c1) (h : impl_Graph_has.f k l0_0 l1 = some r) :
    Calls Tryd.prog 102 #[.agg #[.slice A0_0 l0_0.length c0_0], .slice A1 l1.length c1] w fun e w' => e = .returned (.bool r) ∧ Below w.heap.size w w' := by
  have hu76 := Tryd.underlying76
  have HG := Aside0.mk hG
  clear hG
  have HR0_0 := Aside0.mk hr0_0
  have HC0_0 := Aside0.mk hc0_0
  clear hr0_0 hc0_0
  have HR1 := Aside0.mk hr1
  have HC1 := Aside0.mk hc1
  clear hr1 hc1
  have HB := Aside0.mk (Below.refl w.heap.size w)
  have H : (impl_Graph_has.l0 k l1 (l1.length : Int) 0 l0_0) = some r := h
  clear h
  have H' := Aside0.mk H
  clear H
  go_enter Tryd.func102, Tryd.ntmps102
  go_wp2_with (first | ((with_reducible refine gate_dst (N := 2) rfl ?_); (try (refine gate_guard (by rfl) ?_; dsimp only)); refine box_event ?hg (N := 2) ?hd (cs := #[.slice A0_0 l0_0.length c0_0]) (t := 76) ?hr ?_; (case hd => rfl); (case hg => rfl); (case hr => first | (go_simp; done) | (go_simp; rfl)); intro gb207 hg w3 hbox hb; have hb1_ := fromP HB.out hb (by repeat (first | (with_reducible exact Below.refl _ _) | apply below_alloc | apply pw_below_drewN | apply below_drew1)); have hb0_ := below_step hb1_ hb; have hW_ := below_step HB.out hb1_; have n1_ := Aside0.mk (hbox); have n2_ := Aside0.mk ((by rw [hg]; exact (below_size hW_) : w.heap.size ≤ gb207)); have n3_ := Aside0.mk ((by rw [hg]; exact (below_size hW_) : w.heap.size ≤ gb207)); replace HB := kH HB hb0_; have BK207 := n1_; have GW207 := n2_; have GE207 := n3_; clear hb1_ hb0_ hW_ n1_ n2_ n3_; clear hb hbox hg))
  go_loopg [9] k (fun kq v9 w' => ∃ (x9_1 : Int), v9 = .int .i64 x9_1 ∧ Aside0 (impl_Graph_has.l0 kq l1 (l1.length : Int) x9_1 l0_0 = some r) ∧ Aside0 (kq ≤ k) ∧ Aside0 (w'.heap[gb207]? = some (.cells #[(.slice A0_0 l0_0.length c0_0)] 76 (0, 0))) ∧ Aside0 (Below w.heap.size w w'))
  case atStart => exact ⟨(0), (by first | rfl | (simp; done) | (simp [*]; done)), H', ⟨Nat.le_refl _⟩, ⟨by (with_reducible repeat (first | refine blk_drewN ?_ _ | refine blk_drew ?_ | refine blk_alloc ?_ _)); exact BK207.out⟩, ⟨by repeat (first | (with_reducible first | exact HB.out | apply below_alloc | apply pw_below_drewN | apply below_drew1 | refine below_set ?_ GE207.out) | exact HB.out)⟩⟩
  case round =>
    clear H'
    try clear c1
    try clear p2
    obtain ⟨x9_1, rfl, HA, HK1, BK207, HB⟩ := hrel
    cases gk with
    | zero => exact absurd HA.out (by simp [impl_Graph_has.l0])
    | succ k1 =>
      have H := HA.out
      clear HA
      simp only [impl_Graph_has.l0] at H
      by_cases c4 : x9_1 < (l1.length : Int)
      · rw [if_pos c4] at H
        have c4b0 : decide (x9_1 < (l1.length : Int)) = true := decide_eq_true c4
        clear c4
        by_cases c5 : 0 ≤ x9_1
        · rw [if_pos c5] at H
          have c5b0 : decide (0 ≤ x9_1) = true := decide_eq_true c5
          clear c5
          by_cases c6 : x9_1 < (l1.length : Int)
          · rw [if_pos c6] at H
            have c6b0 : decide (x9_1 < (l1.length : Int)) = true := decide_eq_true c6
            clear c6
            by_cases c7 : (rd l1 x9_1) < 0
            · rw [if_pos c7] at H
              have c7b0 : decide ((rd l1 x9_1) < 0) = true := decide_eq_true c7
              clear c7
              obtain rfl := Option.some.inj H
              have p208 : 0 ≤ (x9_1 : Int) := of_decide_eq_true (by first | (with_reducible assumption) | assumption)
              have q208 : x9_1 < (l1.length : Int) := of_decide_eq_true (by first | (with_reducible assumption) | assumption)
              obtain ⟨ad208, e208, hx208_0⟩ := Kd.at_int HR1.out x9_1 p208 q208
              cases e208
              replace hx208_0 := (HB.out.cell (World.block_lt_of_cell? w _ hx208_0)).trans hx208_0
              replace p208 := eq_true p208
              replace q208 := eq_true q208
              go_wp2
              go_ret
              exact ⟨by first | rfl | (simp [errW_none, errW_some] <;> rfl) | (simp [*, errW_none, errW_some] <;> rfl), by repeat (first | (with_reducible first | exact HB.out | apply below_alloc | apply pw_below_drewN | apply below_drew1 | refine below_set ?_ GE207.out) | exact HB.out)⟩
            · rw [if_neg c7] at H
              have c7b0 : decide ((rd l1 x9_1) < 0) = false := decide_eq_false c7
              clear c7
              by_cases c8 : (rd l1 x9_1) ≥ (l0_0.length : Int)
              · rw [if_pos c8] at H
                have c8b0 : decide ((l0_0.length : Int) ≤ (rd l1 x9_1)) = true := decide_eq_true c8
                clear c8
                obtain rfl := Option.some.inj H
                have p208 : 0 ≤ (x9_1 : Int) := of_decide_eq_true (by first | (with_reducible assumption) | assumption)
                have q208 : x9_1 < (l1.length : Int) := of_decide_eq_true (by first | (with_reducible assumption) | assumption)
                obtain ⟨ad208, e208, hx208_0⟩ := Kd.at_int HR1.out x9_1 p208 q208
                cases e208
                replace hx208_0 := (HB.out.cell (World.block_lt_of_cell? w _ hx208_0)).trans hx208_0
                replace p208 := eq_true p208
                replace q208 := eq_true q208
                obtain ⟨hcz9_0, hfz9_0⟩ := bkA1 BK207.out
                go_wp2
                go_ret
                exact ⟨by first | rfl | (simp [errW_none, errW_some] <;> rfl) | (simp [*, errW_none, errW_some] <;> rfl), by repeat (first | (with_reducible first | exact HB.out | apply below_alloc | apply pw_below_drewN | apply below_drew1 | refine below_set ?_ GE207.out) | exact HB.out)⟩
              · rw [if_neg c8] at H
                have c8b0 : decide ((l0_0.length : Int) ≤ (rd l1 x9_1)) = false := decide_eq_false c8
                clear c8
                have H' := Aside0.mk H
                clear H
                have p208 : 0 ≤ (x9_1 : Int) := of_decide_eq_true (by first | (with_reducible assumption) | assumption)
                have q208 : x9_1 < (l1.length : Int) := of_decide_eq_true (by first | (with_reducible assumption) | assumption)
                obtain ⟨ad208, e208, hx208_0⟩ := Kd.at_int HR1.out x9_1 p208 q208
                cases e208
                replace hx208_0 := (HB.out.cell (World.block_lt_of_cell? w _ hx208_0)).trans hx208_0
                replace p208 := eq_true p208
                replace q208 := eq_true q208
                obtain ⟨hcz10_0, hfz10_0⟩ := bkA1 BK207.out
                go_wp2
                go_roundg k1
                case measure => have := HK1.out; omega
                case rel => exact ⟨(wrap64 (x9_1 + 1)), (by first | rfl | (simp; done) | (simp [*]; done)), H', ⟨by have := HK1.out; omega⟩, ⟨by (with_reducible repeat (first | refine blk_drewN ?_ _ | refine blk_drew ?_ | refine blk_alloc ?_ _)); exact BK207.out⟩, ⟨by repeat (first | (with_reducible first | exact HB.out | apply below_alloc | apply pw_below_drewN | apply below_drew1 | refine below_set ?_ GE207.out) | exact HB.out)⟩⟩
          · rw [if_neg c6] at H
            exact absurd H (by simp)
        · rw [if_neg c5] at H
          exact absurd H (by simp)
      · rw [if_neg c4] at H
        have c4b0 : decide (x9_1 < (l1.length : Int)) = false := decide_eq_false c4
        clear c4
        replace H := Option.bind_eq_some_iff.mp H
        obtain ⟨t209, A110, H⟩ := H
        replace H : (some t209) = some r := H
        have A11 := Aside0.mk A110
        clear A110
        obtain rfl := Option.some.inj H
        obtain ⟨hcz12_0, hfz12_0⟩ := bkA1 BK207.out
        go_wp2_with (first | ((with_reducible refine gate_callee (f := 137) rfl ?_); refine goesL_ (some 24) rfl rfl Tryd.func137 (by kernel_rfl) rfl #[.agg #[.slice A0_0 l0_0.length c0_0]] rfl (by (try simp only [List.map_toArray, List.map_cons, List.map_nil]); first | done | rfl | (simp only [List.length_drop, List.length_take]; rfl)) ?_; (with_reducible refine (impl_ValidGraph.calls k1 _ _ l0_0 t209 _ ?side1 ?side2 ?side3 A11.out).mono ?_); (case side1 => (first | exact HG.out | exact GRes.below HG.out (by repeat (first | (with_reducible first | exact HB.out | apply below_alloc | apply pw_below_drewN | apply below_drew1 | refine below_set ?_ GE207.out) | exact HB.out)) | (repeat (first | exact HG.out | apply GRes.drewN | apply GRes.drew | apply GRes.alloc)))); (case side2 => repeat (first | exact (Kd.C_below HR0_0.out HB.out) | (with_reducible refine Kd.C_alloc ?_ _) | (with_reducible refine Kd.C_drewN ?_ _) | (with_reducible refine Kd.C_drew ?_))); (case side3 => exact HC0_0.out); rintro e w13 ⟨rfl, hb⟩; refine ⟨_, rfl, ?_⟩; have hb1_ := fromP HB.out hb (by repeat (first | (with_reducible exact Below.refl _ _) | apply below_alloc | apply pw_below_drewN | apply below_drew1)); have hb0_ := below_step hb1_ hb; replace BK207 := kB BK207 hb0_; replace HB := kH HB hb0_; clear hb1_ hb0_; (try clear hb); (try clear hb2); (try clear hk); (try clear hi)))
        go_ret
        exact ⟨by first | rfl | (simp [errW_none, errW_some] <;> rfl) | (simp [*, errW_none, errW_some] <;> rfl), by repeat (first | (with_reducible first | exact HB.out | apply below_alloc | apply pw_below_drewN | apply below_drew1 | refine below_set ?_ GE207.out) | exact HB.out)⟩
end Go.Proofs.YtnbohlcibgfjaaaDoor.Gp
end
section
namespace Go.Proofs.YtnbohlcibgfjaaaDoor.Gp
open Go.RowKit Go.Proofs.YtnbohlcibgfjaaaDoorW.PrintWords Go.Proofs.YtnbohlcibgfjaaaDoorW.PrintLast Go.Proofs.YtnbohlcibgfjaaaDoorW.PrintMore
set_option linter.unusedVariables false
set_option linter.unusedSimpArgs false
abbrev PrT := S141
def prV (q : PrT) : Value := .agg #[.int .i64 q.f0, .int .i64 q.f1, .int .i64 q.f2]
structure PrW (q : PrT) : Prop where
  h0 : (Lit.int .i64 q.f0).wf = true
  h1 : (Lit.int .i64 q.f1).wf = true
  h2 : (Lit.int .i64 q.f2).wf = true
theorem pairLaw : Go.Maps.Keyed Tryd.prog 141 := Go.Maps.Keyed.of_law (deep_law_gate (by kernel_rfl) (of_decide_eq_true (by kernel_rfl)) (of_decide_eq_true (by kernel_rfl)) (by kernel_rfl) (by kernel_rfl))
theorem i64wf (n : Int) (h0 : -9223372036854775808 ≤ n) (h1 : n ≤ 9223372036854775807) : (Lit.int .i64 n).wf = true := by
  show (decide (_ ≤ n) && decide (n ≤ _)) = true
  rw [Bool.and_eq_true]
  exact ⟨decide_eq_true h0, decide_eq_true h1⟩
theorem zero3' (w : World) : (zeroValue 3).run Tryd.prog w = .ok (.int .i64 0) w := by kernel_rfl
def prK (q : PrT) : Lit := .string (keyBytes [.int .i64 q.f0, .int .i64 q.f1, .int .i64 q.f2])
theorem keyTypePr : Tryd.prog.keyType 141 = true := by kernel_rfl
theorem cellsOfPr : Tryd.prog.cellsOf 141 = 3 := by kernel_rfl
theorem cellsOfI : Tryd.prog.cellsOf 3 = 1 := by kernel_rfl
theorem typesPr : ∃ n, Tryd.prog.types.size + 1 = n + 2 := ⟨Tryd.prog.types.size - 1, by have : 1 ≤ Tryd.prog.types.size := of_decide_eq_true (by kernel_rfl); omega⟩
theorem keyPr (q : PrT) (h : PrW q) : keyOf Tryd.prog 141 (prV q) = some (prK q) := by
  obtain ⟨h0, h1, h2⟩ := h
  obtain ⟨n, hn⟩ := typesPr
  have e : ∀ (x : Int), (Lit.int .i64 x).wf = true → Tryd.prog.keyLits (n + 1) 3 [.int .i64 x] = some [.int .i64 x] := fun x hx => by
    unfold Program.keyLits
    rw [Tryd.underlying3]
    simp [hx]
  unfold keyOf prV prK
  rw [Tryd.underlying141]
  simp only [keyTypePr, Value.formed, Tryd.underlying141, cellsOfPr, hn]
  unfold Program.keyLits
  rw [Tryd.underlying141]
  simp [cellsOfPr, cellsOfI, Value.cells, e _ h0, e _ h1, e _ h2, Option.bind]
theorem prK_inj {q r : PrT} (hq : PrW q) (hr : PrW r) (h : prK q = prK r) : q = r := by
  have := pairLaw.inj ((keyPr q hq).trans (congrArg some h)) (keyPr r hr)
  unfold prV at this
  cases q; cases r
  simpa using this
theorem blkAt {w : World} {o : Obj} {n : Nat} (h : w.heap.size = n) : (w.alloc o).heap[n]? = some o := h ▸ blk_new w o
def MetD (D : DataW Unit) (o : List PrT) : Prop := Go.Maps.IsMap D ∧ ∀ q, PrW q → (Go.Maps.has D (prK q) = true ↔ q ∈ o)
theorem MetD.nil : MetD (.map []) [] := ⟨Go.Maps.isMap_empty, fun q _ => by simp [Go.Maps.has]⟩
theorem MetD.add {D : DataW Unit} {o : List PrT} (h : MetD D o) {q : PrT} (hq : PrW q) (d : DataW Unit) : MetD (D.put (prK q) d) (o ++ [q]) := by
  refine ⟨h.1.put _ _, fun r hr => ?_⟩
  by_cases e : r = q
  · subst e
    rw [Go.Maps.has_put_same h.1 (pairLaw.key (keyPr r hr))]
    simp
  · rw [Go.Maps.has_put_other (fun k => e (prK_inj hr hq k)), h.2 r hr]
    simp [e]
def prB (a b : PrT) : Bool := a.f0 == b.f0 && a.f1 == b.f1 && a.f2 == b.f2
theorem prB_iff {a b : PrT} : prB a b = true ↔ a = b := by
  unfold prB
  cases a; cases b
  simp [and_assoc]
def addP (o : List PrT) (q : PrT) : List PrT := if o.any (fun x => prB x q) = true then o else o ++ [q]
theorem any_prB {o : List PrT} {q : PrT} : o.any (fun x => prB x q) = true ↔ q ∈ o := by
  rw [List.any_eq_true]
  exact ⟨fun ⟨x, hx, h⟩ => prB_iff.1 h ▸ hx, fun h => ⟨q, h, prB_iff.2 rfl⟩⟩
theorem addP_in {o : List PrT} {q : PrT} (h : q ∈ o) : addP o q = o := if_pos (any_prB.2 h)
theorem addP_out {o : List PrT} {q : PrT} (h : ¬ q ∈ o) : addP o q = o ++ [q] := if_neg (fun k => h (any_prB.1 k))
structure PrAt (w0 W : World) (gm gp : Nat) (o : List PrT) : Prop where
  hm : W.heap[gm]? = some (.cells #[.pointer (some ⟨gp, 0, none⟩)] 176 (0, 0))
  hp : ∃ b v D, W.heap[gp]? = some (.cells #[.map (some b), v] 182 (0, 0)) ∧ Kd.R k141 141 W w0.heap.size (fun _ => True) v o ∧ W.ownsMap (H := Unit) Tryd.prog 141 (plainElem Tryd.prog 3) b o.length D ∧ MetD D o ∧ w0.heap.size ≤ b
  lm : w0.heap.size ≤ gm
  lp : w0.heap.size ≤ gp
  wf : ∀ q ∈ o, PrW q
  bel : Below w0.heap.size w0 W
theorem PrAt.keep {w0 W W1 : World} {gm gp : Nat} {o : List PrT} (h : PrAt w0 W gm gp o) (hb : Below W.heap.size W W1) : PrAt w0 W1 gm gp o := by
  obtain ⟨b, v, D, h1, h2, h3, h4, h5⟩ := h.hp
  exact ⟨blk_below h.hm hb, ⟨b, v, D, blk_below h1 hb, Kd.R_below h2 hb, h3.kept (grown_of_below hb none) (by simp), h4, h5⟩, h.lm, h.lp, h.wf, below_step h.bel hb⟩
structure FrP (W W1 : World) : Prop where
  sz : W.heap.size ≤ W1.heap.size
  bl : ∀ (k : Nat) (cs : Array Value) (t : Nat), W.heap[k]? = some (.cells cs t (0, 0)) → t ≠ 141 → t ≠ 182 → W1.heap[k]? = some (.cells cs t (0, 0))
theorem FrP.refl (W : World) : FrP W W := ⟨Nat.le_refl _, fun _ _ _ h _ _ => h⟩
theorem FrP.trans {W W1 W2 : World} (h : FrP W W1) (k : FrP W1 W2) : FrP W W2 := ⟨Nat.le_trans h.sz k.sz, fun _ _ _ hb h1 h2 => k.bl _ _ _ (h.bl _ _ _ hb h1 h2) h1 h2⟩
theorem FrP.of_below {W W1 : World} (h : Below W.heap.size W W1) : FrP W W1 := ⟨h.size, fun _ _ _ hb _ _ => blk_below hb h⟩
theorem cells_ne_map {W : World} {g b n t : Nat} {cs : Array Value} {D : DataW Unit} {K : Nat} {R : Value → Option (DataW Unit × List MemPlace)} {P : Program} (h : W.heap[g]? = some (.cells cs t (0, 0))) (hm : W.ownsMap P K R b n D) : g ≠ b := by
  rintro rfl
  obtain ⟨es, cl, hb, _⟩ := hm
  rw [h] at hb
  cases hb
theorem R_map {α : Type} {d : Kd α} (hE : d.E = []) {W W1 : World} {e base b n K : Nat} {v : Value} {xs : List α} {D : DataW Unit} {R : Value → Option (DataW Unit × List MemPlace)} {P : Program} (h : d.R e W base (fun _ => True) v xs) (hm : W.ownsMap P K R b n D) (hg : W.grownBy W1 (some b)) : d.R e W1 base (fun _ => True) v xs :=
  Kd.R_mono (Kd.R_step (Kd.R_tight hE h) (fun k hk hlt => hg.block k hlt (fun e => by
    obtain ⟨cells, hc⟩ := Kd.R_typed h k hk.symm
    exact cells_ne_map hc hm (Option.some.inj e)))) (fun _ _ => trivial)
theorem map_row {α : Type} {d : Kd α} {W W1 : World} {e base b n K : Nat} {v : Value} {xs : List α} {D : DataW Unit} {R : Value → Option (DataW Unit × List MemPlace)} {P : Program} {ok : Nat → Prop} (h : d.R e W base ok v xs) (hm : W.ownsMap P K R b n D) (hg : W.grownBy W1 v.ownBlock) : W1.ownsMap P K R b n D :=
  hm.kept hg (fun e => by
    obtain ⟨cells, hc⟩ := Kd.R_typed h b e.symm
    exact cells_ne_map hc hm rfl)
theorem FrP.map {W W1 : World} {b n K : Nat} {D : DataW Unit} {R : Value → Option (DataW Unit × List MemPlace)} {P : Program} (hm : W.ownsMap P K R b n D) (hg : W.grownBy W1 (some b)) : FrP W W1 :=
  ⟨hg.size, fun k _ _ hb _ _ => (hg.block k (blk_lt hb) (fun e => cells_ne_map hb hm (Option.some.inj e))).trans hb⟩
theorem FrP.row {W W1 : World} {base : Nat} {ok : Nat → Prop} {v : Value} {xs : List PrT} (h : Kd.R k141 141 W base ok v xs) (hg : W.grownBy W1 v.ownBlock) : FrP W W1 :=
  ⟨hg.size, fun k cs t hb h1 _ => (hg.block k (blk_lt hb) (fun e => by
    obtain ⟨cells, hc⟩ := Kd.R_typed h k e.symm
    rw [hb] at hc
    cases hc
    exact h1 rfl)).trans hb⟩
theorem FrP.set {W : World} {g : Nat} {cs : Array Value} (h : W.heap[g]? = some (.cells cs 182 (0, 0))) (j : Nat) (u : Value) : FrP W (W.setCell ⟨g, j, none⟩ u) :=
  ⟨by simp [World.setCell], fun k cs t hb _ h2 => blk_far hb (p := ⟨g, j, none⟩) (fun e => by
    have e' : k = g := e
    subst e'
    rw [h] at hb
    cases hb
    exact h2 rfl) u⟩
set_option maxHeartbeats 4000000 in
set_option maxRecDepth 100000 in
theorem newPairs_calls (w : World) : Calls Tryd.prog 138 #[] w fun e w' => ∃ gp b, e = .returned (.pointer (some ⟨gp, 0, none⟩)) ∧ w.heap.size ≤ gp ∧ w.heap.size ≤ b ∧ w'.heap[gp]? = some (.cells #[.map (some b), .slice none 0 0] 182 (0, 0)) ∧ w'.ownsMap (H := Unit) Tryd.prog 141 (plainElem Tryd.prog 3) b 0 (.map []) ∧ Below w.heap.size w w' := by
  have hu := Tryd.underlying182
  have hmm := @run_makeMap Tryd.prog
  go_enter Tryd.func138, Tryd.ntmps138
  go_wp2
  go_ret
  refine ⟨_, _, rfl, ?_, Nat.le_refl _, blkAt (by simp), (World.ownsMap_made _ _ _ _).kept (grown_of_below (below_alloc (Below.refl _ _) _) none) (by simp), ?_⟩
  · simp
  · repeat (first | exact Below.refl _ _ | apply below_alloc)
set_option maxHeartbeats 4000000 in
set_option maxRecDepth 100000 in
theorem first_calls (w0 : World) (gm gp : Nat) (o : List PrT) (w : World) (h : PrAt w0 w gm gp o) : Calls Tryd.prog 141 #[.pointer (some ⟨gm, 0, none⟩)] w fun e w' => e = .returned (.int .i64 o.length) ∧ w' = w := by
  obtain ⟨b, v, D, h1, h2, _, _, _⟩ := h.hp
  obtain ⟨A, c, rfl⟩ := Kd.R_slice h2
  have hc0 : w.cell? ⟨gm, 0, none⟩ = some (.pointer (some ⟨gp, 0, none⟩)) := (blk_cell h.hm 0).trans rfl
  have hc1 : w.cell? ⟨gp, 1, none⟩ = some (.slice A o.length c) := (blk_cell h1 1).trans rfl
  have hu := Tryd.underlying182
  have hu2 := Tryd.underlying180
  clear h h1 h2
  go_enter Tryd.func141, Tryd.ntmps141
  go_wp2
  go_ret
  exact ⟨rfl, rfl⟩
theorem infoPr : (Tryd.prog.info? 141).map (fun i => (i.zero, i.size, i.bytes)) = some (some (.agg #[.int .i64 0, .int .i64 0, .int .i64 0]), 3, 24) := by kernel_rfl
set_option maxHeartbeats 16000000 in
set_option maxRecDepth 100000 in
theorem meet_calls (w0 : World) (gm gp : Nat) (o : List PrT) (q : PrT) (w : World) (h : PrAt w0 w gm gp o) (hq : PrW q) (ho : o.length < 1099511627776) :
    Calls Tryd.prog 140 #[.pointer (some ⟨gp, 0, none⟩), .agg #[.int .i64 q.f0, .int .i64 q.f1, .int .i64 q.f2], .func (.func 141) #[] #[.pointer (some ⟨gm, 0, none⟩)]] w fun e w' => (∃ x, e = .returned (.int .i64 x)) ∧ PrAt w0 w' gm gp (addP o q) ∧ FrP w w' := by
  have hu1 := Tryd.underlying141
  have hu2 := Tryd.underlying182
  have hu3 := Tryd.underlying180
  obtain ⟨b, v, D, h1, h2, h3, h4, h5⟩ := h.hp
  obtain ⟨A, c, rfl⟩ := Kd.R_slice h2
  have HP := Aside0.mk h
  have H1 := Aside0.mk h1
  have H2 := Aside0.mk h2
  have H3 := Aside0.mk h3
  have H4 := Aside0.mk h4
  have H5 := Aside0.mk h5
  have HQ := Aside0.mk hq
  have HO := Aside0.mk ho
  clear h h1 h2 h3 h4 h5 hq ho
  by_cases hin : q ∈ o
  · have HIN := Aside0.mk hin
    clear hin
    have hb : Go.Maps.has D (prK q) = true := (H4.out.2 q HQ.out).2 HIN.out
    have HHB := Aside0.mk hb
    clear hb
    go_enter Tryd.func140, Tryd.ntmps140
    go_wp2
    obtain ⟨W2, hW2⟩ : ∃ W2 : World, W2 = w.alloc (.cells #[.int .i64 q.f0, .int .i64 q.f1, .int .i64 q.f2] 141) := ⟨_, rfl⟩
    rw [← hW2]
    have hb2 : Below w.heap.size w W2 := by rw [hW2]; exact below_alloc (Below.refl _ _) _
    have hx9 : W2.heap[w.heap.size]? = some (.cells #[.int .i64 q.f0, .int .i64 q.f1, .int .i64 q.f2] 141 (0, 0)) := by rw [hW2]; exact blk_new _ _
    clear hW2
    have HB2 := Aside0.mk hb2
    have HX := Aside0.mk hx9
    have HP2 := Aside0.mk (HP.out.keep hb2)
    have HM2 := Aside0.mk (blk_below H1.out hb2)
    have HR2 := Aside0.mk (Kd.R_below H2.out hb2)
    have HD2 := Aside0.mk (H3.out.kept (grown_of_below hb2 none) (by simp))
    clear hb2 hx9
    generalize w.heap.size = gq at HX ⊢
    obtain ⟨vx, ps, hrun, hvx⟩ := (HD2.out.drew).look_ok pairLaw Tryd.underlying179 (zero3' _) (plainElem_int Tryd.underlying3 (i64wf 0 (by omega) (by omega))) (keyPr q HQ.out)
    obtain ⟨cx, rfl, _, _⟩ := plainElem_int_inv Tryd.underlying3 hvx
    clear hvx
    rw [HHB.out] at hrun
    have HRN := Aside0.mk hrun
    clear hrun
    refine start_ (n := 11) (S := fun w' => w'.cell? ⟨gp, 0, none⟩ = some (.map (some b)) ∧ w'.cell? ⟨gq, 0, none⟩ = some (.int .i64 q.f0) ∧ w'.cell? ⟨gq, 1, none⟩ = some (.int .i64 q.f1) ∧ w'.cell? ⟨gq, 2, none⟩ = some (.int .i64 q.f2) ∧ (Instr.lookup 179 (.map (some b)) (.agg #[.int .i64 q.f0, .int .i64 q.f1, .int .i64 q.f2]) true).run Tryd.prog w' = .ok (.tuple #[.int .i64 cx, .bool true]) w') (ds := []) #[false, false, false, false, false, false, false, false, false, false, false] (by kernel_rfl) rfl rfl ⟨(blk_cell HM2.out 0).trans rfl, (blk_cell HX.out 0).trans rfl, (blk_cell HX.out 1).trans rfl, (blk_cell HX.out 2).trans rfl, HRN.out⟩ (fun hHeld => ?_)
    refine pure_ (i := 0) (N := some 11) (v := ?_) (a' := ?_) #[true, false, false, false, false, false, false, false, false, false, false] rfl rfl (by kernel_rfl) (fun _ _ _ h => h) (Or.inl ⟨by rfl, ?_⟩) ?_ ?_
    rotate_left
    · intro w'
      go_simp
      with_reducible rfl
    rotate_left
    · simp only [Act.put, List.setIfInBounds_toArray, List.set_cons_zero, List.set_cons_succ, i64_w, i32_w]
      rfl
    refine pure_ (i := 1) (N := some 12) (v := ?_) (a' := ?_) #[true, true, false, false, false, false, false, false, false, false, false] rfl rfl (by kernel_rfl) (fun _ _ _ h => h) (Or.inl ⟨by rfl, ?_⟩) ?_ ?_
    rotate_left
    · intro w'
      go_simp
      with_reducible rfl
    rotate_left
    · simp only [Act.put, List.setIfInBounds_toArray, List.set_cons_zero, List.set_cons_succ, i64_w, i32_w]
      rfl
    refine pure_ (i := 2) (N := some 13) (v := ?_) (a' := ?_) #[true, true, true, false, false, false, false, false, false, false, false] rfl rfl (by kernel_rfl) (fun _ _ _ h => h) (Or.inl ⟨by rfl, ?_⟩) ?_ ?_
    rotate_left
    · intro w'
      go_simp
      with_reducible rfl
    rotate_left
    · simp only [Act.put, List.setIfInBounds_toArray, List.set_cons_zero, List.set_cons_succ, i64_w, i32_w]
      rfl
    refine take_ (i := 3) (N := some 14) (v := ?_) (a' := ?_) #[true, true, true, true, false, false, false, false, false, false, false] rfl rfl (by kernel_rfl) (fun _ _ _ h => h) (Or.inl ⟨by rfl, ?_⟩) hHeld ?_ ?_
    rotate_left
    · rintro w' ⟨s0, s1, s2, s3, s4⟩
      go_simp
      with_reducible rfl
    rotate_left
    · simp only [Act.put, List.setIfInBounds_toArray, List.set_cons_zero, List.set_cons_succ, i64_w, i32_w]
      rfl
    refine take_ (i := 4) (N := some 15) (v := ?_) (a' := ?_) #[true, true, true, true, true, false, false, false, false, false, false] rfl rfl (by kernel_rfl) (fun _ _ _ h => h) (Or.inl ⟨by rfl, ?_⟩) hHeld ?_ ?_
    rotate_left
    · rintro w' ⟨s0, s1, s2, s3, s4⟩
      go_simp
      with_reducible rfl
    rotate_left
    · simp only [Act.put, List.setIfInBounds_toArray, List.set_cons_zero, List.set_cons_succ, i64_w, i32_w]
      rfl
    refine take_ (i := 5) (N := some 16) (v := ?_) (a' := ?_) #[true, true, true, true, true, true, false, false, false, false, false] rfl rfl (by kernel_rfl) (fun _ _ _ h => h) (Or.inl ⟨by rfl, ?_⟩) hHeld ?_ ?_
    rotate_left
    · rintro w' ⟨s0, s1, s2, s3, s4⟩
      go_simp
      with_reducible rfl
    rotate_left
    · simp only [Act.put, List.setIfInBounds_toArray, List.set_cons_zero, List.set_cons_succ, i64_w, i32_w]
      rfl
    refine pure_ (i := 6) (N := some 10) (v := ?_) (a' := ?_) #[true, true, true, true, true, true, true, false, false, false, false] rfl rfl (by kernel_rfl) (fun _ _ _ h => h) (Or.inl ⟨by rfl, ?_⟩) ?_ ?_
    rotate_left
    · intro w'
      go_simp
      with_reducible rfl
    rotate_left
    · simp only [Act.put, List.setIfInBounds_toArray, List.set_cons_zero, List.set_cons_succ, i64_w, i32_w]
      rfl
    refine pure_ (i := 7) (N := some 17) (v := ?_) (a' := ?_) #[true, true, true, true, true, true, true, true, false, false, false] rfl rfl (by kernel_rfl) (fun _ _ _ h => h) (Or.inl ⟨by rfl, ?_⟩) ?_ ?_
    rotate_left
    · intro w'
      go_simp
      with_reducible rfl
    rotate_left
    · simp only [Act.put, List.setIfInBounds_toArray, List.set_cons_zero, List.set_cons_succ, i64_w, i32_w]
      rfl
    refine pure_ (i := 9) (N := some 7) (v := ?_) (a' := ?_) #[true, true, true, true, true, true, true, true, false, true, false] rfl rfl (by kernel_rfl) (fun _ _ _ h => h) (Or.inl ⟨by rfl, ?_⟩) ?_ ?_
    rotate_left
    · intro w'
      go_simp
      with_reducible rfl
    rotate_left
    · simp only [Act.put, List.setIfInBounds_toArray, List.set_cons_zero, List.set_cons_succ, i64_w, i32_w]
      rfl
    refine pure_ (i := 8) (N := some 18) (v := ?_) (a' := ?_) #[true, true, true, true, true, true, true, true, true, true, false] rfl rfl (by kernel_rfl) (fun _ _ _ h => h) (Or.inl ⟨by rfl, ?_⟩) ?_ ?_
    rotate_left
    · intro w'
      go_simp
      with_reducible rfl
    rotate_left
    · simp only [Act.put, List.setIfInBounds_toArray, List.set_cons_zero, List.set_cons_succ, i64_w, i32_w]
      rfl
    refine pure_ (i := 10) (N := some 8) (v := ?_) (a' := ?_) #[true, true, true, true, true, true, true, true, true, true, true] rfl rfl (by kernel_rfl) (fun _ _ _ h => h) (Or.inl ⟨by rfl, ?_⟩) ?_ ?_
    rotate_left
    · intro w'
      go_simp
      with_reducible rfl
    rotate_left
    · simp only [Act.put, List.setIfInBounds_toArray, List.set_cons_zero, List.set_cons_succ, i64_w, i32_w]
      rfl
    refine done_ (by kernel_rfl) ?_
    try go_wp2
    go_ret
    refine ⟨⟨cx, rfl⟩, ?_, ?_⟩
    · rw [show addP o q = o from addP_in HIN.out]; exact HP2.out.keep (below_drew1 (Below.refl _ _))
    · exact FrP.of_below (below_drew1 HB2.out)
  · have HIN := Aside0.mk hin
    clear hin
    have hb : Go.Maps.has D (prK q) = false := by cases hx : Go.Maps.has D (prK q) with
    | true => exact absurd ((H4.out.2 q HQ.out).1 hx) HIN.out
    | false => rfl
    have HHB := Aside0.mk hb
    clear hb
    go_enter Tryd.func140, Tryd.ntmps140
    go_wp2
    obtain ⟨W2, hW2⟩ : ∃ W2 : World, W2 = w.alloc (.cells #[.int .i64 q.f0, .int .i64 q.f1, .int .i64 q.f2] 141) := ⟨_, rfl⟩
    rw [← hW2]
    have hb2 : Below w.heap.size w W2 := by rw [hW2]; exact below_alloc (Below.refl _ _) _
    have hx9 : W2.heap[w.heap.size]? = some (.cells #[.int .i64 q.f0, .int .i64 q.f1, .int .i64 q.f2] 141 (0, 0)) := by rw [hW2]; exact blk_new _ _
    clear hW2
    have HB2 := Aside0.mk hb2
    have HX := Aside0.mk hx9
    have HP2 := Aside0.mk (HP.out.keep hb2)
    have HM2 := Aside0.mk (blk_below H1.out hb2)
    have HR2 := Aside0.mk (Kd.R_below H2.out hb2)
    have HD2 := Aside0.mk (H3.out.kept (grown_of_below hb2 none) (by simp))
    clear hb2 hx9
    generalize w.heap.size = gq at HX ⊢
    obtain ⟨vx, ps, hrun, hvx⟩ := (HD2.out.drew).look_ok pairLaw Tryd.underlying179 (zero3' _) (plainElem_int Tryd.underlying3 (i64wf 0 (by omega) (by omega))) (keyPr q HQ.out)
    obtain ⟨cx, rfl, _, _⟩ := plainElem_int_inv Tryd.underlying3 hvx
    clear hvx
    rw [HHB.out] at hrun
    have HRN := Aside0.mk hrun
    clear hrun
    refine start_ (n := 11) (S := fun w' => w'.cell? ⟨gp, 0, none⟩ = some (.map (some b)) ∧ w'.cell? ⟨gq, 0, none⟩ = some (.int .i64 q.f0) ∧ w'.cell? ⟨gq, 1, none⟩ = some (.int .i64 q.f1) ∧ w'.cell? ⟨gq, 2, none⟩ = some (.int .i64 q.f2) ∧ (Instr.lookup 179 (.map (some b)) (.agg #[.int .i64 q.f0, .int .i64 q.f1, .int .i64 q.f2]) true).run Tryd.prog w' = .ok (.tuple #[.int .i64 cx, .bool false]) w') (ds := []) #[false, false, false, false, false, false, false, false, false, false, false] (by kernel_rfl) rfl rfl ⟨(blk_cell HM2.out 0).trans rfl, (blk_cell HX.out 0).trans rfl, (blk_cell HX.out 1).trans rfl, (blk_cell HX.out 2).trans rfl, HRN.out⟩ (fun hHeld => ?_)
    refine pure_ (i := 0) (N := some 11) (v := ?_) (a' := ?_) #[true, false, false, false, false, false, false, false, false, false, false] rfl rfl (by kernel_rfl) (fun _ _ _ h => h) (Or.inl ⟨by rfl, ?_⟩) ?_ ?_
    rotate_left
    · intro w'
      go_simp
      with_reducible rfl
    rotate_left
    · simp only [Act.put, List.setIfInBounds_toArray, List.set_cons_zero, List.set_cons_succ, i64_w, i32_w]
      rfl
    refine pure_ (i := 1) (N := some 12) (v := ?_) (a' := ?_) #[true, true, false, false, false, false, false, false, false, false, false] rfl rfl (by kernel_rfl) (fun _ _ _ h => h) (Or.inl ⟨by rfl, ?_⟩) ?_ ?_
    rotate_left
    · intro w'
      go_simp
      with_reducible rfl
    rotate_left
    · simp only [Act.put, List.setIfInBounds_toArray, List.set_cons_zero, List.set_cons_succ, i64_w, i32_w]
      rfl
    refine pure_ (i := 2) (N := some 13) (v := ?_) (a' := ?_) #[true, true, true, false, false, false, false, false, false, false, false] rfl rfl (by kernel_rfl) (fun _ _ _ h => h) (Or.inl ⟨by rfl, ?_⟩) ?_ ?_
    rotate_left
    · intro w'
      go_simp
      with_reducible rfl
    rotate_left
    · simp only [Act.put, List.setIfInBounds_toArray, List.set_cons_zero, List.set_cons_succ, i64_w, i32_w]
      rfl
    refine take_ (i := 3) (N := some 14) (v := ?_) (a' := ?_) #[true, true, true, true, false, false, false, false, false, false, false] rfl rfl (by kernel_rfl) (fun _ _ _ h => h) (Or.inl ⟨by rfl, ?_⟩) hHeld ?_ ?_
    rotate_left
    · rintro w' ⟨s0, s1, s2, s3, s4⟩
      go_simp
      with_reducible rfl
    rotate_left
    · simp only [Act.put, List.setIfInBounds_toArray, List.set_cons_zero, List.set_cons_succ, i64_w, i32_w]
      rfl
    refine take_ (i := 4) (N := some 15) (v := ?_) (a' := ?_) #[true, true, true, true, true, false, false, false, false, false, false] rfl rfl (by kernel_rfl) (fun _ _ _ h => h) (Or.inl ⟨by rfl, ?_⟩) hHeld ?_ ?_
    rotate_left
    · rintro w' ⟨s0, s1, s2, s3, s4⟩
      go_simp
      with_reducible rfl
    rotate_left
    · simp only [Act.put, List.setIfInBounds_toArray, List.set_cons_zero, List.set_cons_succ, i64_w, i32_w]
      rfl
    refine take_ (i := 5) (N := some 16) (v := ?_) (a' := ?_) #[true, true, true, true, true, true, false, false, false, false, false] rfl rfl (by kernel_rfl) (fun _ _ _ h => h) (Or.inl ⟨by rfl, ?_⟩) hHeld ?_ ?_
    rotate_left
    · rintro w' ⟨s0, s1, s2, s3, s4⟩
      go_simp
      with_reducible rfl
    rotate_left
    · simp only [Act.put, List.setIfInBounds_toArray, List.set_cons_zero, List.set_cons_succ, i64_w, i32_w]
      rfl
    refine pure_ (i := 6) (N := some 10) (v := ?_) (a' := ?_) #[true, true, true, true, true, true, true, false, false, false, false] rfl rfl (by kernel_rfl) (fun _ _ _ h => h) (Or.inl ⟨by rfl, ?_⟩) ?_ ?_
    rotate_left
    · intro w'
      go_simp
      with_reducible rfl
    rotate_left
    · simp only [Act.put, List.setIfInBounds_toArray, List.set_cons_zero, List.set_cons_succ, i64_w, i32_w]
      rfl
    refine pure_ (i := 7) (N := some 17) (v := ?_) (a' := ?_) #[true, true, true, true, true, true, true, true, false, false, false] rfl rfl (by kernel_rfl) (fun _ _ _ h => h) (Or.inl ⟨by rfl, ?_⟩) ?_ ?_
    rotate_left
    · intro w'
      go_simp
      with_reducible rfl
    rotate_left
    · simp only [Act.put, List.setIfInBounds_toArray, List.set_cons_zero, List.set_cons_succ, i64_w, i32_w]
      rfl
    refine pure_ (i := 9) (N := some 7) (v := ?_) (a' := ?_) #[true, true, true, true, true, true, true, true, false, true, false] rfl rfl (by kernel_rfl) (fun _ _ _ h => h) (Or.inl ⟨by rfl, ?_⟩) ?_ ?_
    rotate_left
    · intro w'
      go_simp
      with_reducible rfl
    rotate_left
    · simp only [Act.put, List.setIfInBounds_toArray, List.set_cons_zero, List.set_cons_succ, i64_w, i32_w]
      rfl
    refine pure_ (i := 8) (N := some 18) (v := ?_) (a' := ?_) #[true, true, true, true, true, true, true, true, true, true, false] rfl rfl (by kernel_rfl) (fun _ _ _ h => h) (Or.inl ⟨by rfl, ?_⟩) ?_ ?_
    rotate_left
    · intro w'
      go_simp
      with_reducible rfl
    rotate_left
    · simp only [Act.put, List.setIfInBounds_toArray, List.set_cons_zero, List.set_cons_succ, i64_w, i32_w]
      rfl
    refine pure_ (i := 10) (N := some 8) (v := ?_) (a' := ?_) #[true, true, true, true, true, true, true, true, true, true, true] rfl rfl (by kernel_rfl) (fun _ _ _ h => h) (Or.inl ⟨by rfl, ?_⟩) ?_ ?_
    rotate_left
    · intro w'
      go_simp
      with_reducible rfl
    rotate_left
    · simp only [Act.put, List.setIfInBounds_toArray, List.set_cons_zero, List.set_cons_succ, i64_w, i32_w]
      rfl
    refine done_ (by kernel_rfl) ?_
    go_wp2_with (first | (go_at_call 141; refine (first_calls w0 gm gp o _ (HP2.out.keep (below_drew1 (Below.refl _ _)))).mono ?_; rintro e w' ⟨rfl, rfl⟩))
    refine start_ (n := 7) (S := fun w' => w'.cell? ⟨gp, 0, none⟩ = some (.map (some b)) ∧ w'.cell? ⟨gq, 0, none⟩ = some (.int .i64 q.f0) ∧ w'.cell? ⟨gq, 1, none⟩ = some (.int .i64 q.f1) ∧ w'.cell? ⟨gq, 2, none⟩ = some (.int .i64 q.f2)) (ds := [6]) #[false, false, false, false, false, false, false] (by kernel_rfl) rfl rfl ⟨(blk_cell (blk_drew HM2.out) 0).trans rfl, (blk_cell (blk_drew HX.out) 0).trans rfl, (blk_cell (blk_drew HX.out) 1).trans rfl, (blk_cell (blk_drew HX.out) 2).trans rfl⟩ (fun hHeld => ?_)
    refine pure_ (i := 0) (N := some 23) (v := ?_) (a' := ?_) #[true, false, false, false, false, false, false] rfl rfl (by kernel_rfl) (fun _ _ _ h => h) (Or.inl ⟨by rfl, ?_⟩) ?_ ?_
    rotate_left
    · intro w'
      go_simp
      with_reducible rfl
    rotate_left
    · simp only [Act.put, List.setIfInBounds_toArray, List.set_cons_zero, List.set_cons_succ, i64_w, i32_w]
      rfl
    refine pure_ (i := 1) (N := some 24) (v := ?_) (a' := ?_) #[true, true, false, false, false, false, false] rfl rfl (by kernel_rfl) (fun _ _ _ h => h) (Or.inl ⟨by rfl, ?_⟩) ?_ ?_
    rotate_left
    · intro w'
      go_simp
      with_reducible rfl
    rotate_left
    · simp only [Act.put, List.setIfInBounds_toArray, List.set_cons_zero, List.set_cons_succ, i64_w, i32_w]
      rfl
    refine pure_ (i := 2) (N := some 25) (v := ?_) (a' := ?_) #[true, true, true, false, false, false, false] rfl rfl (by kernel_rfl) (fun _ _ _ h => h) (Or.inl ⟨by rfl, ?_⟩) ?_ ?_
    rotate_left
    · intro w'
      go_simp
      with_reducible rfl
    rotate_left
    · simp only [Act.put, List.setIfInBounds_toArray, List.set_cons_zero, List.set_cons_succ, i64_w, i32_w]
      rfl
    refine take_ (i := 3) (N := some 26) (v := ?_) (a' := ?_) #[true, true, true, true, false, false, false] rfl rfl (by kernel_rfl) (fun _ _ _ h => h) (Or.inl ⟨by rfl, ?_⟩) hHeld ?_ ?_
    rotate_left
    · rintro w' ⟨s0, s1, s2, s3⟩
      go_simp
      with_reducible rfl
    rotate_left
    · simp only [Act.put, List.setIfInBounds_toArray, List.set_cons_zero, List.set_cons_succ, i64_w, i32_w]
      rfl
    refine take_ (i := 4) (N := some 27) (v := ?_) (a' := ?_) #[true, true, true, true, true, false, false] rfl rfl (by kernel_rfl) (fun _ _ _ h => h) (Or.inl ⟨by rfl, ?_⟩) hHeld ?_ ?_
    rotate_left
    · rintro w' ⟨s0, s1, s2, s3⟩
      go_simp
      with_reducible rfl
    rotate_left
    · simp only [Act.put, List.setIfInBounds_toArray, List.set_cons_zero, List.set_cons_succ, i64_w, i32_w]
      rfl
    refine pure_ (i := 5) (N := some 28) (v := ?_) (a' := ?_) #[true, true, true, true, true, true, false] rfl rfl (by kernel_rfl) (fun _ _ _ h => h) (Or.inl ⟨by rfl, ?_⟩) ?_ ?_
    rotate_left
    · intro w'
      go_simp
      with_reducible rfl
    rotate_left
    · simp only [Act.put, List.setIfInBounds_toArray, List.set_cons_zero, List.set_cons_succ, i64_w, i32_w]
      rfl
    refine last_ (i := 6) (N := none) #[true, true, true, true, true, true, true] rfl rfl (by kernel_rfl) (by decide) (fun K hK => ?_)
    obtain ⟨w5, hrun5, hown5, hg5⟩ := (HD2.out.drew.drew).update pairLaw Tryd.underlying179 (show o.length < maxLen by have := HO.out; unfold maxLen; omega) (keyPr q HQ.out) (plainElem_int Tryd.underlying3 (i64wf (o.length : Int) (by omega) (by have := HO.out; omega)))
    refine skip_ (w1 := w5) (by rfl) rfl ?_ ?_
    · go_simp
      rw [show (Value.agg #[.int .i64 q.f0, .int .i64 q.f1, .int .i64 q.f2]) = prV q from rfl, hrun5]
      rfl
    refine hK.out _ _ ?_
    clear hK K
    refine done_ (by kernel_rfl) ?_
    have HM5 := Aside0.mk (blk_grown (blk_drew (blk_drew HM2.out)) hg5 (fun e => cells_ne_map HM2.out HD2.out (Option.some.inj e)))
    have HX5 := Aside0.mk (blk_grown (blk_drew (blk_drew HX.out)) hg5 (fun e => cells_ne_map HX.out HD2.out (Option.some.inj e)))
    have HG5 := Aside0.mk (blk_grown (blk_drew (blk_drew HP2.out.hm)) hg5 (fun e => cells_ne_map HP2.out.hm HD2.out (Option.some.inj e)))
    have HR5 := Aside0.mk (R_map rfl (Kd.R_drew (Kd.R_drew HR2.out)) HD2.out.drew.drew hg5)
    have HD5 := Aside0.mk hown5
    have HF5 := Aside0.mk (FrP.trans (FrP.of_below (below_drew1 (below_drew1 HB2.out))) (FrP.map HD2.out.drew.drew hg5))
    have HB5 := Aside0.mk (pw_below_grown (below_drew1 (below_drew1 HP2.out.bel)) (some b) (below_size (below_drew1 (below_drew1 HP2.out.bel))) hg5 (fun k e => by cases e; exact H5.out))
    clear hown5 hg5 hrun5
    try go_wp2
    refine start_ (n := 11) (S := fun w' => w'.cell? ⟨gp, 1, none⟩ = some (.slice A o.length c) ∧ w'.cell? ⟨gq, 0, none⟩ = some (.int .i64 q.f0) ∧ w'.cell? ⟨gq, 1, none⟩ = some (.int .i64 q.f1) ∧ w'.cell? ⟨gq, 2, none⟩ = some (.int .i64 q.f2)) (ds := [7, 10]) #[false, false, false, false, false, false, false, false, false, false, false] (by kernel_rfl) rfl rfl ⟨(blk_cell HM5.out 1).trans rfl, (blk_cell HX5.out 0).trans rfl, (blk_cell HX5.out 1).trans rfl, (blk_cell HX5.out 2).trans rfl⟩ (fun hHeld => ?_)
    refine pure_ (i := 0) (N := some 29) (v := ?_) (a' := ?_) #[true, false, false, false, false, false, false, false, false, false, false] rfl rfl (by kernel_rfl) (fun _ _ _ h => h) (Or.inl ⟨by rfl, ?_⟩) ?_ ?_
    rotate_left
    · intro w'
      go_simp
      with_reducible rfl
    rotate_left
    · simp only [Act.put, List.setIfInBounds_toArray, List.set_cons_zero, List.set_cons_succ, i64_w, i32_w]
      rfl
    refine pure_ (i := 1) (N := some 30) (v := ?_) (a' := ?_) #[true, true, false, false, false, false, false, false, false, false, false] rfl rfl (by kernel_rfl) (fun _ _ _ h => h) (Or.inl ⟨by rfl, ?_⟩) ?_ ?_
    rotate_left
    · intro w'
      go_simp
      with_reducible rfl
    rotate_left
    · simp only [Act.put, List.setIfInBounds_toArray, List.set_cons_zero, List.set_cons_succ, i64_w, i32_w]
      rfl
    refine pure_ (i := 2) (N := some 31) (v := ?_) (a' := ?_) #[true, true, true, false, false, false, false, false, false, false, false] rfl rfl (by kernel_rfl) (fun _ _ _ h => h) (Or.inl ⟨by rfl, ?_⟩) ?_ ?_
    rotate_left
    · intro w'
      go_simp
      with_reducible rfl
    rotate_left
    · simp only [Act.put, List.setIfInBounds_toArray, List.set_cons_zero, List.set_cons_succ, i64_w, i32_w]
      rfl
    refine pure_ (i := 3) (N := some 32) (v := ?_) (a' := ?_) #[true, true, true, true, false, false, false, false, false, false, false] rfl rfl (by kernel_rfl) (fun _ _ _ h => h) (Or.inl ⟨by rfl, ?_⟩) ?_ ?_
    rotate_left
    · intro w'
      go_simp
      with_reducible rfl
    rotate_left
    · simp only [Act.put, List.setIfInBounds_toArray, List.set_cons_zero, List.set_cons_succ, i64_w, i32_w]
      rfl
    refine take_ (i := 4) (N := some 33) (v := ?_) (a' := ?_) #[true, true, true, true, true, false, false, false, false, false, false] rfl rfl (by kernel_rfl) (fun _ _ _ h => h) (Or.inl ⟨by rfl, ?_⟩) hHeld ?_ ?_
    rotate_left
    · rintro w' ⟨s0, s1, s2, s3⟩
      go_simp
      with_reducible rfl
    rotate_left
    · simp only [Act.put, List.setIfInBounds_toArray, List.set_cons_zero, List.set_cons_succ, i64_w, i32_w]
      rfl
    refine take_ (i := 5) (N := some 34) (v := ?_) (a' := ?_) #[true, true, true, true, true, true, false, false, false, false, false] rfl rfl (by kernel_rfl) (fun _ _ _ h => h) (Or.inl ⟨by rfl, ?_⟩) hHeld ?_ ?_
    rotate_left
    · rintro w' ⟨s0, s1, s2, s3⟩
      go_simp
      with_reducible rfl
    rotate_left
    · simp only [Act.put, List.setIfInBounds_toArray, List.set_cons_zero, List.set_cons_succ, i64_w, i32_w]
      rfl
    refine one_ (i := 6) (N := some 35) #[true, true, true, true, true, true, true, false, false, false, false] rfl rfl (by kernel_rfl) (by decide) (fun K hK => ?_)
    refine value_ (v := .slice (some ⟨w5.drew.heap.size, 0, none⟩) 1 1) (w1 := w5.drew.alloc (.cells #[.int .i64 q.f0, .int .i64 q.f1, .int .i64 q.f2] 141)) (by rfl) rfl ?_ ?_
    · go_simp
    refine hK.out _ _ ⟨pw_cell_below (below_alloc (Below.refl _ _) _) hHeld.1, pw_cell_below (below_alloc (Below.refl _ _) _) hHeld.2.1, pw_cell_below (below_alloc (Below.refl _ _) _) hHeld.2.2.1, pw_cell_below (below_alloc (Below.refl _ _) _) hHeld.2.2.2⟩ (fun hHeld => ?_)
    clear hK K
    refine norm_ (a' := ?_) ?_ ?_
    rotate_left
    · show Act.put _ (some 35) _ = _
      simp only [Act.put, List.setIfInBounds_toArray, List.set_cons_zero, List.set_cons_succ, i64_w, i32_w]
      rfl
    refine last_ (i := 7) (N := some 36) #[true, true, true, true, true, true, true, true, false, false, false] rfl rfl (by kernel_rfl) (by decide) (fun K hK => ?_)
    refine Kd.R_append_step k141 (w0 := w0) (W := w5.drew) w0.heap.size (by rfl) (.tmp 33) (.tmp 35) 180 141 (.agg #[.int .i64 0, .int .i64 0, .int .i64 0]) 24 rfl Tryd.underlying180 infoPr rfl (by decide) (by decide) (.slice A o.length c) o q [.int .i64 q.f0, .int .i64 q.f1, .int .i64 q.f2] (fun _ => True) (fun _ => False) rfl rfl (k141_mkM _ _ _ q) (fun _ h => h.elim) (fun _ _ => trivial) (Kd.R_drew HR5.out) (below_drew1 HB5.out) (below_size (below_drew1 HB5.out)) (by have := HO.out; omega) ?_
    intro v1 w1 hr1 hb1 hg1 _
    refine hK.out _ _ ?_
    clear hK K
    refine norm_ (a' := ?_) ?_ ?_
    rotate_left
    · show Act.put _ (some 36) _ = _
      simp only [Act.put, List.setIfInBounds_toArray, List.set_cons_zero, List.set_cons_succ, i64_w, i32_w]
      rfl
    have HM1 := Aside0.mk (blk_grown (blk_drew HM5.out) hg1 (Kd.R_ne (Kd.R_drew HR5.out) (blk_drew HM5.out) (by decide)))
    have HG1 := Aside0.mk (blk_grown (blk_drew HG5.out) hg1 (Kd.R_ne (Kd.R_drew HR5.out) (blk_drew HG5.out) (by decide)))
    have HD1 := Aside0.mk (map_row (Kd.R_drew HR5.out) HD5.out.drew hg1)
    have HF1 := Aside0.mk (FrP.trans HF5.out (FrP.trans (FrP.of_below (below_drew1 (Below.refl _ _))) (FrP.row (Kd.R_drew HR5.out) hg1)))
    obtain ⟨A1, c1, rfl⟩ := Kd.R_slice hr1
    have hcv1 : w1.cell? ⟨gp, 1, none⟩ = some (.slice A o.length c) := (blk_cell HM1.out 1).trans rfl
    have hfv1 := blk_frozen HM1.out 1
    have HR1 := Aside0.mk hr1
    have HB1 := Aside0.mk hb1
    clear hr1 hb1 hg1
    refine pure_ (i := 8) (N := some 37) (v := ?_) (a' := ?_) #[true, true, true, true, true, true, true, true, true, false, false] rfl rfl (by kernel_rfl) (fun _ _ _ h => h) (Or.inl ⟨by rfl, ?_⟩) ?_ ?_
    rotate_left
    · intro w'
      go_simp
      with_reducible rfl
    rotate_left
    · simp only [Act.put, List.setIfInBounds_toArray, List.set_cons_zero, List.set_cons_succ, i64_w, i32_w]
      rfl
    refine pure_ (i := 9) (N := some 38) (v := ?_) (a' := ?_) #[true, true, true, true, true, true, true, true, true, true, false] rfl rfl (by kernel_rfl) (fun _ _ _ h => h) (Or.inl ⟨by rfl, ?_⟩) ?_ ?_
    rotate_left
    · intro w'
      go_simp
      with_reducible rfl
    rotate_left
    · simp only [Act.put, List.setIfInBounds_toArray, List.set_cons_zero, List.set_cons_succ, i64_w, i32_w]
      rfl
    refine last_ (i := 10) (N := none) #[true, true, true, true, true, true, true, true, true, true, true] rfl rfl (by kernel_rfl) (by decide) (fun K hK => ?_)
    refine skip_ (w1 := w1.setCell ⟨gp, 1, none⟩ (.slice A1 (o ++ [q]).length c1)) (by rfl) rfl ?_ ?_
    · go_simp
    refine hK.out _ _ ?_
    clear hK K
    refine done_ (by kernel_rfl) ?_
    clear hcv1 hfv1
    try go_wp2
    go_ret
    refine ⟨⟨_, rfl⟩, ?_, ?_⟩
    · rw [show addP o q = o ++ [q] from addP_out HIN.out]
      refine ⟨blk_far HG1.out (p := ⟨gp, 1, none⟩) (blk_ne HG1.out HM1.out (by decide)) _, ⟨b, _, _, blk_put HM1.out 1 _ rfl, Kd.R_set HR1.out HM1.out (by decide) 1 _, ?_, H4.out.add HQ.out (.lit (.int .i64 (o.length : Int))), H5.out⟩, HP2.out.lm, HP2.out.lp, ?_, below_set HB1.out HP2.out.lp⟩
      · rw [List.length_append]; exact HD1.out.setCell (fun e => cells_ne_map HM1.out HD1.out e.symm) _
      · intro r hr
        rcases List.mem_append.1 hr with hr | hr
        · exact HP2.out.wf r hr
        · rw [List.mem_singleton.1 hr]; exact HQ.out
    · exact FrP.trans HF1.out (FrP.set HM1.out 1 _)
theorem callvP_ {P : Program} {ops : Array Oper} {Q : Exit → Act → World → Prop} {oi : Oper} {N : Option Tmp} {a : Act} {w : World} {K : Act → World → Prop} {f : FuncId} {fn : Func} {co : Operand} {ars : Array Operand} {ts : Array TypeId} (caps : Array Value) (hf : P.funcs[f]? = some fn) (hname : (fn.name == "runtime.NumGoroutine") = false) (hb : fn.body.isSome = true) (args : Array Value)
    (hw : Region.wanted oi (yielded ops a.tmps) = true) (hN : oi.dst = N) (hop : oi.op = .call { callee := .value co, args := ars, argTypes := ts }) (hco : a.eval co = .func (.func f) #[] caps) (hargs : ars.map a.eval ++ caps = args)
    (h : Calls P f args w fun e w' => ∃ v, e = .returned v ∧ K (a.put N v) w') : if Region.wanted oi (yielded ops a.tmps) = true then Oper.wp P oi a w K Q else K (a.put N undef) w := by
  refine call_ f args hw hN ?_ h
  have he := enters_ hf hname hb args w
  unfold execOp
  simp [hop, resolve, Deferred.ofValue, invoke, hco, hargs, he]
theorem callvL_ {P : Program} {ops : Array Oper} {Q : Exit → Act → World → Prop} {rest : List Oper} {oi : Oper} {a : Act} {w : World} (N : Option Tmp) (hd : oi.dst = N) (hg : oi.guard = none) {f : FuncId} {fn : Func} {co : Operand} {ars : Array Operand} {ts : Array TypeId} (caps : Array Value) (hf : P.funcs[f]? = some fn) (hname : (fn.name == "runtime.NumGoroutine") = false) (hb : fn.body.isSome = true) (args : Array Value)
    (hop : oi.op = .call { callee := .value co, args := ars, argTypes := ts }) (hco : a.eval co = .func (.func f) #[] caps) (hargs : ars.map a.eval ++ caps = args)
    (h : Calls P f args w fun e w' => ∃ v, e = .returned v ∧ wpList P ops Q rest (a.put N v) w') : wpList P ops Q (oi :: rest) a w := by
  refine wpList_plain hg fun K hK => ?_
  have he := enters_ hf hname hb args w
  have hrun : (execOp a.eval oi).run P w = .ok (.enter f args) w := by
    unfold execOp
    simp [hop, resolve, Deferred.ofValue, invoke, hco, hargs, he]
  unfold Oper.wp
  rw [hrun, Oper.upon_enter]
  refine h.mono fun e w'' hh => ?_
  obtain ⟨v, rfl, hk⟩ := hh
  subst hd
  exact hK _ _ hk
theorem gate_value {P : Program} {ops : Array Oper} {Q : Exit → Act → World → Prop} {rest : List Oper} {o : Oper} {a : Act} {W : World} {t : Tmp} {ars : Array Operand} {ts : Array TypeId} (_ho : o.op = .call { callee := .value (.tmp t), args := ars, argTypes := ts }) (h : wpList P ops Q (o :: rest) a W) : wpList P ops Q (o :: rest) a W := h
set_option maxHeartbeats 8000000 in
set_option maxRecDepth 100000 in
theorem demand_calls (w0 : World) (gm gp : Nat) (o : List PrT) (q : PrT) (w : World) (h : PrAt w0 w gm gp o) (hq : PrW q) (ho : o.length < 1099511627776) :
    Calls Tryd.prog 139 #[.agg #[.int .i64 q.f0, .int .i64 q.f1, .int .i64 q.f2], .pointer (some ⟨gm, 0, none⟩)] w fun e w' => e = .returned (.tuple #[]) ∧ PrAt w0 w' gm gp (addP o q) ∧ FrP w w' := by
  have hu1 := Tryd.underlying141
  have hmf : ∀ (fn : Fn) (first cap : Array Value) (w : World), (Instr.makeFunc fn first cap).run Tryd.prog w = .ok (.func fn first cap) w := fun _ _ _ _ => rfl
  have HP := Aside0.mk h
  have HQ := Aside0.mk hq
  have HO := Aside0.mk ho
  have hc : w.cell? ⟨gm, 0, none⟩ = some (.pointer (some ⟨gp, 0, none⟩)) := (blk_cell h.hm 0).trans rfl
  have hgl : gm < w.heap.size := blk_lt h.hm
  clear h hq ho
  go_enter Tryd.func139, Tryd.ntmps139
  go_wp2_with (go_at_call 140; refine (meet_calls w0 gm gp o q _ (HP.out.keep (by repeat (first | exact Below.refl _ _ | apply below_alloc))) HQ.out HO.out).mono ?_; rintro e w6 ⟨⟨x, rfl⟩, hP6, hF6⟩; have HP6 := Aside0.mk hP6; have HF6 : Aside0 (FrP w w6) := ⟨FrP.trans (FrP.of_below (by repeat (first | exact Below.refl _ _ | apply below_alloc))) hF6⟩; clear hP6 hF6)
  first | go_end0 | ((try simp only [Exit.inBlock, Exit.then]); refine bodyPost_ret (results_none rfl _ _ _) rfl ?_)
  exact ⟨rfl, HP6.out, HF6.out⟩
def all_l (st : Nat → PrT → List PrT → Option (Bool × List PrT)) : Nat → List PrT → Nat → Option Bool
  | 0, _, _ => none
  | k + 1, o, i => if o.length < 1099511627776 then (if i < o.length then (st k (rd_T141 o (i : Int)) o).bind fun p => (if p.1 = true then all_l st k p.2 (i + 1) else some false) else some true) else none
set_option maxHeartbeats 16000000 in
set_option maxRecDepth 100000 in
theorem all_calls (st : Nat → PrT → List PrT → Option (Bool × List PrT)) (fs : FuncId) (fn : Func) (hfs : Tryd.prog.funcs[fs]? = some fn) (hnm : (fn.name == "runtime.NumGoroutine") = false) (hbd : fn.body.isSome = true) (caps : Array Value) (Inv : World → Prop) (hInv : ∀ W W', FrP W W' → Inv W → Inv W')
    (k : Nat) (A : Option Addr) (n c : Nat) (q0 : PrT) (hq0 : PrW q0) (r : Bool) (w : World) (h0 : Inv w)
    (hst : ∀ (k' : Nat) (W : World) (gm gp : Nat) (o o' : List PrT) (q : PrT) (rr : Bool), PrAt w W gm gp o → Inv W → q ∈ o → o.length < 1099511627776 → st k' q o = some (rr, o') →
      Calls Tryd.prog fs (#[.agg #[.int .i64 q.f0, .int .i64 q.f1, .int .i64 q.f2], .func (.func 139) #[] #[.pointer (some ⟨gm, 0, none⟩)]] ++ caps) W fun e W' => e = .returned (.bool rr) ∧ PrAt w W' gm gp o' ∧ FrP W W')
    (h : all_l st k [q0] 0 = some r) :
    Calls Tryd.prog 103 #[.agg #[.slice A n c], .agg #[.int .i64 q0.f0, .int .i64 q0.f1, .int .i64 q0.f2], .func (.func fs) #[] caps] w fun e w' => e = .returned (.bool r) ∧ Below w.heap.size w w' := by
  have hu1 := Tryd.underlying141
  have hu2 := Tryd.underlying182
  have hu3 := Tryd.underlying180
  have hu4 := Tryd.underlying76
  have hmf : ∀ (fn : Fn) (first cap : Array Value) (w : World), (Instr.makeFunc fn first cap).run Tryd.prog w = .ok (.func fn first cap) w := fun _ _ _ _ => rfl
  have HFS := Aside0.mk hfs
  have HIV := Aside0.mk hInv
  have HST := Aside0.mk hst
  have H := Aside0.mk h
  have HQ := Aside0.mk hq0
  have HI0 := Aside0.mk h0
  have HNB := Aside0.mk (And.intro hnm hbd)
  clear hfs hInv hst h hq0 h0 hnm hbd
  go_enter Tryd.func103, Tryd.ntmps103
  go_wp2_with (first | (go_at_call 138; refine (newPairs_calls _).mono ?_; rintro e w6 ⟨gp, b, rfl, hgp, hbp, h6, hd6, hb6⟩; have HB6 : Aside0 (Below w.heap.size w w6) := ⟨below_step (by repeat (first | exact Below.refl _ _ | apply below_alloc)) hb6⟩; have HG6 : Aside0 (w.heap.size ≤ gp) := ⟨Nat.le_trans (by simp; omega) hgp⟩; have HGB6 : Aside0 (w.heap.size ≤ b) := ⟨Nat.le_trans (by simp; omega) hbp⟩; have H6 := Aside0.mk h6; have HD6 := Aside0.mk hd6; have hq1 : w6.cell? ⟨w.heap.size + 1, 0, none⟩ = some (.int .i64 q0.f0) := pw_cell_below hb6 ((blk_cell (blkAt (by simp)) 0).trans rfl); have hq2 : w6.cell? ⟨w.heap.size + 1, 1, none⟩ = some (.int .i64 q0.f1) := pw_cell_below hb6 ((blk_cell (blkAt (by simp)) 1).trans rfl); have hq3 : w6.cell? ⟨w.heap.size + 1, 2, none⟩ = some (.int .i64 q0.f2) := pw_cell_below hb6 ((blk_cell (blkAt (by simp)) 2).trans rfl); have hlt6 : w.heap.size + 1 < w6.heap.size := World.block_lt_of_cell? _ _ hq1; clear hgp hbp h6 hd6 hb6) | (go_at_call 139; refine (demand_calls w w6.heap.size gp [] q0 _ ⟨blk_new _ _, ⟨b, _, _, blk_alloc H6.out _, Kd.R_nil _ _ _ _ _, HD6.out.alloc _, MetD.nil, HGB6.out⟩, below_size HB6.out, HG6.out, (fun _ hq => by cases hq), below_alloc HB6.out _⟩ HQ.out (by decide)).mono ?_; rintro e w7 ⟨rfl, hP7, hF7⟩; rw [show addP [] q0 = [q0] from addP_out (by simp)] at hP7; have HP7 := Aside0.mk hP7; have HI7 := Aside0.mk (HIV.out _ _ (FrP.trans (FrP.of_below (below_alloc HB6.out _)) hF7) HI0.out); clear hP7 hF7))
  clear hq1 hq2 hq3 hlt6 H6 HD6
  generalize w6.heap.size = gm at HP7 ⊢
  go_loopg [9] k (fun kq v9 w' => ∃ (i : Nat) (o : List PrT), v9 = .int .i64 i ∧ Aside0 (all_l st kq o i = some r) ∧ Aside0 (kq ≤ k) ∧ Aside0 (PrAt w w' gm gp o) ∧ Aside0 (Inv w'))
  case atStart => exact ⟨0, [q0], rfl, H, ⟨Nat.le_refl _⟩, HP7, HI7⟩
  case round =>
    clear H HP7 HI7
    obtain ⟨i, o, rfl, HA, HK, HP, HI⟩ := hrel
    cases gk with
    | zero => exact absurd HA.out (by simp [all_l])
    | succ k1 =>
      have h := HA.out
      clear HA
      simp only [all_l] at h
      by_cases hb : o.length < 1099511627776
      case neg => rw [if_neg hb] at h; cases h
      rw [if_pos hb] at h
      have HO := Aside0.mk hb
      clear hb
      obtain ⟨b, v, D, h1, h2, _, _, _⟩ := HP.out.hp
      obtain ⟨A1, c1, rfl⟩ := Kd.R_slice h2
      have hc0 : wr.cell? ⟨gm, 0, none⟩ = some (.pointer (some ⟨gp, 0, none⟩)) := (blk_cell HP.out.hm 0).trans rfl
      have hc1 : wr.cell? ⟨gp, 1, none⟩ = some (.slice A1 o.length c1) := (blk_cell h1 1).trans rfl
      by_cases hi : i < o.length
      · rw [if_pos hi] at h
        obtain ⟨⟨rr, o'⟩, hs, h⟩ := Option.bind_eq_some_iff.mp h
        have p0 : 0 ≤ (i : Int) := by omega
        have q0' : (i : Int) < (o.length : Int) := by omega
        have ql : decide (i < o.length) = true := decide_eq_true hi
        obtain ⟨ad, eA, hx0, hx1, hx2⟩ := at_T141 (Kd.R_reads' h2).2.2 i p0 q0'
        cases eA
        rw [Int.toNat_natCast] at hx0 hx1 hx2
        have HS := Aside0.mk hs
        have HW := Aside0.mk (show wrap64 ((i : Int) + 1) = ((i + 1 : Nat) : Int) by have := HO.out; unfold wrap64; omega)
        have HM := Aside0.mk (show rd_T141 o (i : Int) ∈ o by
          unfold rd_T141
          rw [Int.toNat_natCast, List.getD_eq_getElem?_getD, List.getElem?_eq_getElem hi]
          exact List.getElem_mem hi)
        obtain ⟨q, hq⟩ : ∃ q, q = rd_T141 o (i : Int) := ⟨_, rfl⟩
        rw [← hq] at hx0 hx1 hx2 HS HM
        clear hs h1 h2 hi hq
        cases rr with
        | true =>
          have h' : all_l st k1 o' (i + 1) = some r := by simpa using h
          have HN := Aside0.mk h'
          clear h h'
          go_wp2_with (first | ((with_reducible refine gate_value (t := 24) rfl ?_); refine callvL_ (some 33) rfl rfl caps HFS.out HNB.out.1 HNB.out.2 (#[.agg #[.int .i64 q.f0, .int .i64 q.f1, .int .i64 q.f2], .func (.func 139) #[] #[.pointer (some ⟨gm, 0, none⟩)]] ++ caps) rfl rfl (by (try simp only [List.map_toArray, List.map_cons, List.map_nil]); rfl) ?_; refine (HST.out k1 _ gm gp o o' q true HP.out HI.out HM.out HO.out HS.out).mono ?_; rintro e w8 ⟨rfl, hP8, hF8⟩; refine ⟨_, rfl, ?_⟩; have HP8 := Aside0.mk hP8; have HI8 := Aside0.mk (HIV.out _ _ hF8 HI.out); clear hP8 hF8))
          rw [HW.out]
          go_roundg k1
          case measure => have := HK.out; omega
          case rel => exact ⟨i + 1, o', rfl, HN, ⟨by have := HK.out; omega⟩, HP8, HI8⟩
        | false =>
          have h' : false = r := by simpa using h
          subst h'
          clear h
          go_wp2_with (first | ((with_reducible refine gate_value (t := 24) rfl ?_); refine callvL_ (some 33) rfl rfl caps HFS.out HNB.out.1 HNB.out.2 (#[.agg #[.int .i64 q.f0, .int .i64 q.f1, .int .i64 q.f2], .func (.func 139) #[] #[.pointer (some ⟨gm, 0, none⟩)]] ++ caps) rfl rfl (by (try simp only [List.map_toArray, List.map_cons, List.map_nil]); rfl) ?_; refine (HST.out k1 _ gm gp o o' q false HP.out HI.out HM.out HO.out HS.out).mono ?_; rintro e w8 ⟨rfl, hP8, hF8⟩; refine ⟨_, rfl, ?_⟩; have HP8 := Aside0.mk hP8; clear hP8 hF8))
          go_ret
          exact ⟨rfl, HP8.out.bel⟩
      · rw [if_neg hi] at h
        obtain rfl := Option.some.inj h
        have ql : decide (i < o.length) = false := decide_eq_false hi
        clear h h1 h2 hi
        go_wp2
        go_ret
        exact ⟨rfl, HP.out.bel⟩
abbrev NdT := S145
end Go.Proofs.YtnbohlcibgfjaaaDoor.Gp
end
section
namespace Go.Proofs.YtnbohlcibgfjaaaDoor.Gp
open Go.RowKit Go.Proofs.YtnbohlcibgfjaaaDoorW.PrintWords Go.Proofs.YtnbohlcibgfjaaaDoorW.PrintLast Go.Proofs.YtnbohlcibgfjaaaDoorW.PrintMore
set_option linter.unusedVariables false
set_option linter.unusedSimpArgs false
end Go.Proofs.YtnbohlcibgfjaaaDoor.Gp
end
