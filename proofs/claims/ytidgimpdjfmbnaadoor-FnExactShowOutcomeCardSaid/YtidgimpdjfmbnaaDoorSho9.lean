/- A part of the proof of RowFnExactShowOutcome: each text's theorems that it needs, packed by shake.py, a program of this work; Lean checks them. -/
import Derived.Test.YtidgimpdjfmbnaaDoorSho2
import Derived.Test.YtidgimpdjfmbnaaDoorSho7
import Derived.Test.YtidgimpdjfmbnaaDoorSho8
section
namespace Go.Proofs.YtidgimpdjfmbnaaDoor.Gp
open Go.RowKit Go.Proofs.YtidgimpdjfmbnaaDoorW.PrintWords Go.Proofs.YtidgimpdjfmbnaaDoorW.PrintLast Go.Proofs.YtidgimpdjfmbnaaDoorW.PrintMore
set_option linter.unusedVariables false
set_option linter.unusedSimpArgs false
set_option maxHeartbeats 4000000 in
set_option maxRecDepth 100000 in
theorem words_calls (w0 : World) (g : Nat) (l : List UInt8) (bk o c : Nat) (xs : List ByteArray) (W : World) (h : BldAt w0 W g l) (hcells : ∀ (j : Nat) x, xs[j]? = some x → W.cell? ⟨bk, o + j, none⟩ = some (.string x)) (hbk : bk < W.heap.size) (hN : xs.length ≤ 140737488355328) (hcap : xs.length ≤ c)
    (hlen : l.length + (lineL xs).length ≤ 140737488355328) :
    Calls Tryd.prog 47 #[.pointer (some ⟨g, 0, none⟩), .slice (some ⟨bk, o, none⟩) xs.length c] W fun e w' => e = .returned (.tuple #[]) ∧ BldAt w0 w' g (l ++ lineL xs) ∧ Oth g W w' := by
  have H := Aside0.mk h
  have HL := Aside0.mk hlen
  have hs : (joinT xs).size + 1 ≤ 9223372036854775807 := by rw [joinT_one]; omega
  have hlj : (lineL xs).length ≤ 140737488355328 := by omega
  clear h hlen
  go_enter Tryd.func47, Tryd.ntmps47
  go_wp2_with (go_at_call 86; refine (shJoin bk o c xs _ hcells hbk hN hcap hlj).mono ?_; rintro e w6 ⟨rfl, hb⟩; have HB := Aside0.mk hb; clear hb; refine Hid.out ?_)
  refine Lib.hid ?_
  clear hcells hbk hN hcap hlj
  go_wp2_with (go_at_call 85; refine (shWrite w0 g l (joinT xs ++ (⟨#[10]⟩ : ByteArray)) _ (H.out.keep HB.out) (by rw [joinT_size]; exact HL.out)).mono ?_; rintro e w7 ⟨rfl, hb7, ho7⟩; have HB7 := Aside0.mk hb7; have HO7 := Aside0.mk ho7; clear hb7 ho7)
  refine bodyPost_end (results_none rfl _ _ _) rfl ?_
  exact ⟨rfl, joinT_line xs ▸ HB7.out, (Oth.of_below HB.out).trans HO7.out⟩
abbrev AnT := S77
abbrev RaT := S85
abbrev DgT := S81
def dgT (d : DgT) : ByteArray := (numT d.f0 ++ (⟨#[58]⟩ : ByteArray)) ++ numT d.f1
def ansH (a : AnT) : List ByteArray := [⟨#[97, 110, 115, 119, 101, 114]⟩, numT a.f0, a.f1, numT a.f2] ++ (if a.f3 = true then [⟨#[102, 117, 108, 108]⟩] else [])
def ansP (a : AnT) : List ByteArray := ansH a ++ a.f4.map dgT
def ranP (r : RaT) : List ByteArray := [⟨#[114, 97, 110]⟩, kindT r.f0.f0, r.f0.f1, numT r.f1, numT r.f2]
def endP (a0 a3 a4 a5 : Int) : List ByteArray := [⟨#[101, 110, 100]⟩, numT a0, numT a4, numT a3, numT a5]
def ansL (a : AnT) : List UInt8 := lineL (ansP a)
def ranL (r : RaT) : List UInt8 := lineL (ranP r)
def showL (a0 : Int) (l1 : List AnT) (l2 : List RaT) (a3 a4 a5 : Int) : List UInt8 := ((l1.map ansL).flatten ++ (l2.map ranL).flatten) ++ lineL (endP a0 a3 a4 a5)
def anOk (a : AnT) : Prop := (okJ a.f0 ∧ okJ a.f2) ∧ a.f4.length ≤ 1099511627776 ∧ ∀ d ∈ a.f4, okJ d.f0 ∧ okJ d.f1
def raOk (r : RaT) : Prop := okJ r.f0.f0 ∧ okJ r.f1 ∧ okJ r.f2
instance (a : AnT) : Decidable (anOk a) := by unfold anOk; infer_instance
instance (r : RaT) : Decidable (raOk r) := by unfold raOk; infer_instance
def shOk (a0 : Int) (l1 : List AnT) (l2 : List RaT) (a3 a4 a5 : Int) : Prop := (showL a0 l1 l2 a3 a4 a5).length ≤ 140737488355328 ∧ (l1.length ≤ 1099511627776 ∧ ∀ a ∈ l1, anOk a) ∧ (l2.length ≤ 1099511627776 ∧ ∀ r ∈ l2, raOk r) ∧ okJ a0 ∧ okJ a3 ∧ okJ a4 ∧ okJ a5
instance (a0 : Int) (l1 : List AnT) (l2 : List RaT) (a3 a4 a5 : Int) : Decidable (shOk a0 l1 l2 a3 a4 a5) := by unfold shOk; infer_instance
def impl_ShowOutcome.f (a0 : Int) (l1 : List AnT) (l2 : List RaT) (a3 a4 a5 : Int) (_ : List S187) : Option ByteArray := if shOk a0 l1 l2 a3 a4 a5 then some ⟨(showL a0 l1 l2 a3 a4 a5).toArray⟩ else none
theorem flat_take {α : Type} (f : α → List UInt8) (l : List α) (d : α) (k : Nat) (h : k < l.length) : ((l.take (k + 1)).map f).flatten = ((l.take k).map f).flatten ++ f (l.getD k d) := by
  rw [List.take_succ_eq_append_getElem h, List.map_append, List.flatten_append]
  simp [List.getD_eq_getElem?_getD, h]
theorem flat_le {α : Type} (f : α → List UInt8) (l : List α) (k : Nat) : ((l.take k).map f).flatten.length ≤ (l.map f).flatten.length := by
  conv => rhs; rw [← List.take_append_drop k l, List.map_append, List.flatten_append, List.length_append]
  omega
theorem map_take' {α β : Type} (f : α → β) (l : List α) (d : α) (k : Nat) (h : k < l.length) : (l.take (k + 1)).map f = (l.take k).map f ++ [f (l.getD k d)] := by
  rw [List.take_succ_eq_append_getElem h, List.map_append]
  simp [List.getD_eq_getElem?_getD, h]
theorem rd_memA (l : List AnT) {k : Nat} (h : k < l.length) : rd_T77 l (k : Int) ∈ l := by
  unfold rd_T77
  rw [Int.toNat_natCast, List.getD_eq_getElem?_getD, List.getElem?_eq_getElem h]
  exact List.getElem_mem h
theorem rd_memR (l : List RaT) {k : Nat} (h : k < l.length) : rd_T85 l (k : Int) ∈ l := by
  unfold rd_T85
  rw [Int.toNat_natCast, List.getD_eq_getElem?_getD, List.getElem?_eq_getElem h]
  exact List.getElem_mem h
theorem rd_memD (l : List DgT) {k : Nat} (h : k < l.length) : rd_T81 l (k : Int) ∈ l := by
  unfold rd_T81
  rw [Int.toNat_natCast, List.getD_eq_getElem?_getD, List.getElem?_eq_getElem h]
  exact List.getElem_mem h
theorem takeA (l : List AnT) (k : Nat) (h : k < l.length) : ((l.take (k + 1)).map ansL).flatten = ((l.take k).map ansL).flatten ++ ansL (rd_T77 l (k : Int)) := by
  rw [flat_take ansL l z77 k h]; unfold rd_T77; rw [Int.toNat_natCast]
theorem takeR (l : List RaT) (k : Nat) (h : k < l.length) : ((l.take (k + 1)).map ranL).flatten = ((l.take k).map ranL).flatten ++ ranL (rd_T85 l (k : Int)) := by
  rw [flat_take ranL l z85 k h]; unfold rd_T85; rw [Int.toNat_natCast]
theorem takeD (l : List DgT) (k : Nat) (h : k < l.length) : (l.take (k + 1)).map dgT = (l.take k).map dgT ++ [dgT (rd_T81 l (k : Int))] := by
  rw [map_take' dgT l z81 k h]; unfold rd_T81; rw [Int.toNat_natCast]
theorem infoStr : (Tryd.prog.info? 9).map (fun i => (i.zero, i.size, i.bytes)) = some (some (.string ⟨#[]⟩), 1, 16) := by kernel_rfl
theorem addr0 (g j : Nat) : (⟨g, 0, none⟩ : Addr).add j = ⟨g, 0 + j, none⟩ := by unfold Addr.add; split <;> simp_all
theorem BldAt.fresh {w0 W : World} {g : Nat} (hb : Below w0.heap.size w0 W) (hg : W.heap.size = g) : BldAt w0 (W.alloc (.cells #[.pointer none, .slice none 0 0] 91)) g [] := by
  subst hg
  exact ⟨.inl ⟨below_size hb, .slice none 0 0, blk_new W _, World.ownsRowF_nil _ _ _ _, by simp [Value.ownBlock]⟩, below_alloc hb _⟩
def PtsAt (w0 W : World) (v : Value) (ps : List ByteArray) : Prop := W.ownsRow w0.heap.size 9 1 v ps.length (ps.map Value.string)
theorem PtsAt.keep {w0 W W1 : World} {v : Value} {ps : List ByteArray} (h : PtsAt w0 W v ps) (hb : Below W.heap.size W W1) : PtsAt w0 W1 v ps := own_move h (fun k hk => hb.block k (own_lt h k hk))
theorem PtsAt.slice {w0 W : World} {v : Value} {ps : List ByteArray} (h : PtsAt w0 W v ps) (h0 : 0 < ps.length) : ∃ b c, v = .slice (some ⟨b, 0, none⟩) ps.length c ∧ ps.length ≤ c ∧ b < W.heap.size ∧ ∀ (j : Nat) x, ps[j]? = some x → W.cell? ⟨b, 0 + j, none⟩ = some (.string x) := by
  obtain ⟨_, h2⟩ := id h
  rcases h2 with ⟨_, h3⟩ | ⟨g, cap, cur, hv, hb, hg, hle, _⟩
  · omega
  · refine ⟨g, cap, hv, hle, blk_lt hg, fun j x hj => ?_⟩
    have := World.ownsRow.cells h (g := g) (by rw [hv]; rfl) j (.string x) (by rw [List.getElem?_map, hj]; rfl)
    rwa [addr0] at this
theorem PtsAt.own {w0 W : World} {v : Value} {ps : List ByteArray} (h : PtsAt w0 W v ps) : W.ownsRow w0.heap.size 9 1 v (ps.map Value.string).length (ps.map Value.string) := by rw [List.length_map]; exact h
theorem PtsAt.put {w0 W : World} {v : Value} {ps : List ByteArray} {y : ByteArray} {n : Nat} (h : W.ownsRow w0.heap.size 9 1 v n (ps.map Value.string ++ [.string y])) : PtsAt w0 W v (ps ++ [y]) := by
  have e : n = (ps ++ [y]).length := by have := h.1; simp at this; simp [← this]
  unfold PtsAt
  rw [List.map_append, ← e]
  exact h
theorem PtsAt.ne {w0 W : World} {v : Value} {ps : List ByteArray} (h : PtsAt w0 W v ps) {g t : Nat} {cs : Array Value} (hb : W.heap[g]? = some (.cells cs t (0, 0))) (ht : t ≠ 9) : some g ≠ v.ownBlock := fun e => by
  obtain ⟨cells, hc⟩ := own_typed h g e.symm
  rw [hb] at hc
  cases hc
  exact ht rfl
theorem BldAt.grown {w0 W W1 : World} {g : Nat} {l : List UInt8} (h : BldAt w0 W g l) {v : Value} {ps : List ByteArray} (hP : PtsAt w0 W v ps) (hg : W.grownBy W1 v.ownBlock) (hb : Below w0.heap.size w0 W1) : BldAt w0 W1 g l := by
  have main : ∀ p, Lib.BuilderAtF 91 5 w0.heap.size g p (Lib.byteCells l) W → Lib.BuilderAtF 91 5 w0.heap.size g p (Lib.byteCells l) W1 := fun p hp => by
    obtain ⟨hB, u, hbk, hown, hne⟩ := hp
    refine ⟨hB, u, blk_grown hbk hg (hP.ne hbk (by decide)), hown.kept hg ?_, hne⟩
    cases e : u.ownBlock with
    | none => exact .inl rfl
    | some k =>
      refine .inr (fun e2 => ?_)
      obtain ⟨c, fz, hc⟩ := Lib.ownsRowF_kind hown k e
      obtain ⟨cells, hc2⟩ := own_typed hP k e2.symm
      rw [hc] at hc2
      cases hc2
  exact ⟨h.is.imp (main _) (main _), hb⟩
theorem BldAt.ne_map {w0 W : World} {g b n : Nat} {l : List UInt8} {f : Int → Option ByteArray} (h : BldAt w0 W g l) (hm : KMap W b n f) : b ≠ g := by
  rcases h.is with ⟨_, v, hbk, _⟩ | ⟨_, v, hbk, _⟩
  · exact hm.ne hbk
  · exact hm.ne hbk
theorem BldAt.grownM {w0 W W1 : World} {g b n : Nat} {l : List UInt8} {f : Int → Option ByteArray} (h : BldAt w0 W g l) (hm : KMap W b n f) (hg : W.grownBy W1 (some b)) (hle : w0.heap.size ≤ b) : BldAt w0 W1 g l := by
  have main : ∀ p, Lib.BuilderAtF 91 5 w0.heap.size g p (Lib.byteCells l) W → Lib.BuilderAtF 91 5 w0.heap.size g p (Lib.byteCells l) W1 := fun p hp => by
    obtain ⟨hB, u, hbk, hown, hne⟩ := hp
    refine ⟨hB, u, blk_grown hbk hg (fun e => hm.ne hbk (Option.some.inj e).symm), hown.kept hg ?_, hne⟩
    cases e : u.ownBlock with
    | none => exact .inl rfl
    | some k =>
      refine .inr (fun e2 => ?_)
      obtain ⟨c, fz, hc⟩ := Lib.ownsRowF_kind hown k e
      exact hm.ne hc (Option.some.inj e2).symm
  exact ⟨h.is.imp (main _) (main _), h.bel.grown hg (below_size h.bel) (fun k hk => by cases hk; exact hle)⟩
theorem PtsAt.made {w0 W : World} (xs : List ByteArray) (b : Nat) (hb : W.heap[b]? = some (.cells (xs.map Value.string).toArray 9 (0, 0))) (hle : w0.heap.size ≤ b) (hm : xs.length ≤ maxLen) : PtsAt w0 W (.slice (some ⟨b, 0, none⟩) xs.length xs.length) xs := by
  refine ⟨by simp, .inr ⟨b, xs.length, (xs.map Value.string).toArray, rfl, hle, hb, Nat.le_refl _, hm, by simp, ?_⟩⟩
  rw [Nat.mul_one]
  exact List.take_of_length_le (by simp)
theorem made_cells {W : World} {xs : List ByteArray} {b t : Nat} {fz : Nat × Nat} (hb : W.heap[b]? = some (.cells (xs.map Value.string).toArray t fz)) (j : Nat) (x : ByteArray) (hj : xs[j]? = some x) : W.cell? ⟨b, 0 + j, none⟩ = some (.string x) := by
  rw [Nat.zero_add, Lib.cell_of_heap hb]
  simp [hj]
set_option maxHeartbeats 64000000 in
set_option maxRecDepth 100000 in
theorem impl_ShowOutcome.calls (a0 : Int) (A1 : Option Addr) (c1 : Nat) (l1 : List AnT) (A2 : Option Addr) (c2 : Nat) (l2 : List RaT) (a3 a4 a5 : Int) (A6 : Option Addr) (c6 : Nat) (l6 : List S187) (r : ByteArray) (w : World) (hG : GPow w) (hr1 : Kd.C k77 w A1 l1.length l1) (hc1 : l1.length ≤ c1) (hr2 : Kd.C k85 w A2 l2.length l2) (hc2 : l2.length ≤ c2) (hr6 : Kd.C k187 w A6 l6.length l6) (hc6 : l6.length ≤ c6) (h : impl_ShowOutcome.f a0 l1 l2 a3 a4 a5 l6 = some r) :
    Calls Tryd.prog 12 #[.agg #[.int .i64 a0, .slice A1 l1.length c1, .slice A2 l2.length c2, .int .i64 a3, .int .i64 a4, .int .i64 a5, .slice A6 l6.length c6]] w fun e w' => e = .returned (.string r) ∧ Below w.heap.size w w' := by
  have hu1 := Tryd.underlying77
  have hu2 := Tryd.underlying85
  have hu3 := Tryd.underlying81
  have hu4 := Tryd.underlying83
  have hu5 := Tryd.underlying37
  have hu6 := Tryd.underlying64
  have hu7 := Tryd.underlying93
  have hu8 := Tryd.underlying91
  have hu9 := Tryd.underlying9
  unfold impl_ShowOutcome.f at h
  by_cases gd : shOk a0 l1 l2 a3 a4 a5
  case neg => rw [if_neg gd] at h; cases h
  rw [if_pos gd] at h
  obtain rfl := Option.some.inj h
  have G := Aside0.mk gd
  have HG := Aside0.mk hG
  have HR1 := Aside0.mk hr1
  have HR2 := Aside0.mk hr2
  have hmm := @run_makeMap Tryd.prog
  clear gd h hG hr1 hr2 hr6 hc1 hc2 hc6
  go_enter Tryd.func12, Tryd.ntmps12
  go_wp2
  go_loopw [17] (fun i wr => ∃ k : Nat, k ≤ l1.length ∧ i = .int .i64 k ∧ Aside0 (BldAt w wr (w.heap.size + 1) ((l1.take k).map ansL).flatten) ∧ Aside0 (wr.heap[w.heap.size]? = some (.cells #[.int .i64 a0, .slice A1 l1.length c1, .slice A2 l2.length c2, .int .i64 a3, .int .i64 a4, .int .i64 a5, .slice A6 l6.length c6] 37 (0, 0)))) (fun i _ => l1.length - (intOf i).toNat)
  case atStart => exact ⟨0, Nat.zero_le _, rfl, ⟨BldAt.fresh (below_alloc (Below.refl _ _) _) (by simp)⟩, ⟨blk_alloc (blk_new _ _) _⟩⟩
  case round =>
    obtain ⟨k, hk, rfl, HA, HO⟩ := hrel
    by_cases hlt : k < l1.length
    · have p0 : 0 ≤ (k : Int) := by omega
      have q0 : (k : Int) < (l1.length : Int) := by omega
      have ql : decide (k < l1.length) = true := decide_eq_true hlt
      obtain ⟨ad, A4, c4, eA, hx0, hx1, hx2, hx3, hx4, hl4, hC4⟩ := at_T77 HR1.out k p0 q0
      cases eA
      rw [Int.toNat_natCast] at hx0 hx1 hx2 hx3 hx4
      replace hx0 := (HA.out.bel.cell (World.block_lt_of_cell? w _ hx0)).trans hx0
      replace hx1 := (HA.out.bel.cell (World.block_lt_of_cell? w _ hx1)).trans hx1
      replace hx2 := (HA.out.bel.cell (World.block_lt_of_cell? w _ hx2)).trans hx2
      replace hx3 := (HA.out.bel.cell (World.block_lt_of_cell? w _ hx3)).trans hx3
      replace hx4 := (HA.out.bel.cell (World.block_lt_of_cell? w _ hx4)).trans hx4
      have hok := G.out.2.1.2 _ (rd_memA l1 hlt)
      have HD := Aside0.mk (takeA l1 k hlt)
      have HLen := Aside0.mk (show (((l1.take (k + 1)).map ansL).flatten).length ≤ 140737488355328 by have h1 := flat_le ansL l1 (k + 1); have h2 := G.out.1; unfold showL at h2; rw [List.length_append, List.length_append] at h2; omega)
      have HKL := Aside0.mk (show k < 1099511627776 by have := G.out.2.1.1; omega)
      obtain ⟨L, hL⟩ : ∃ L, L = ((l1.take k).map ansL).flatten := ⟨_, rfl⟩
      rw [← hL] at HA HD
      clear hL
      rw [HD.out] at HLen
      obtain ⟨s, hs⟩ : ∃ s, s = rd_T77 l1 (k : Int) := ⟨_, rfl⟩
      rw [← hs] at hx0 hx1 hx2 hx3 hx4 hl4 hC4 hok HD HLen
      clear hs
      have HOK := Aside0.mk hok
      have HC4 := Aside0.mk hC4
      have Hc4 := Aside0.mk hl4
      clear hok hC4 hl4
      go_wp2
      obtain ⟨W2, hW2⟩ : ∃ W2 : World, W2 = wr.alloc (.cells #[.int .i64 s.f0, .string s.f1, .int .i64 s.f2, .bool s.f3, .slice A4 s.f4.length c4] 77) := ⟨_, rfl⟩
      rw [← hW2]
      have hb2 : Below wr.heap.size wr W2 := by rw [hW2]; exact below_alloc (Below.refl _ _) _
      have hx9 : W2.heap[wr.heap.size]? = some (.cells #[.int .i64 s.f0, .string s.f1, .int .i64 s.f2, .bool s.f3, .slice A4 s.f4.length c4] 77 (0, 0)) := by rw [hW2]; exact blk_new _ _
      clear hW2
      have HA2 := Aside0.mk (HA.out.keep hb2)
      have HO2 := Aside0.mk (blk_below HO.out hb2)
      have HX := Aside0.mk hx9
      clear hx9 hb2 hx0 hx1 hx2 hx3 hx4
      generalize wr.heap.size = ga at HX ⊢
      refine start_ (n := 10) (S := fun w' => w'.cell? ⟨ga, 0, none⟩ = some (.int .i64 s.f0) ∧ w'.cell? ⟨ga, 1, none⟩ = some (.string s.f1) ∧ w'.cell? ⟨ga, 2, none⟩ = some (.int .i64 s.f2)) (ds := []) #[false, false, false, false, false, false, false, false, false, false] (by kernel_rfl) rfl rfl ⟨(blk_cell HX.out 0).trans rfl, (blk_cell HX.out 1).trans rfl, (blk_cell HX.out 2).trans rfl⟩ (fun hHeld => ?_)
      refine pure_ (i := 0) (N := some 21) (v := ?_) (a' := ?_) #[true, false, false, false, false, false, false, false, false, false] rfl rfl (by kernel_rfl) (fun _ _ _ h => h) (Or.inl ⟨by rfl, ?_⟩) ?_ ?_
      rotate_left
      · intro w'
        go_simp
        with_reducible rfl
      rotate_left
      · simp only [Act.put, List.setIfInBounds_toArray, List.set_cons_zero, List.set_cons_succ, i64_w, i32_w]
        rfl
      refine take_ (i := 1) (N := some 22) (v := ?_) (a' := ?_) #[true, true, false, false, false, false, false, false, false, false] rfl rfl (by kernel_rfl) (fun _ _ _ h => h) (Or.inl ⟨by rfl, ?_⟩) hHeld ?_ ?_
      rotate_left
      · rintro w' ⟨s0, s1, s2⟩
        go_simp
        with_reducible rfl
      rotate_left
      · simp only [Act.put, List.setIfInBounds_toArray, List.set_cons_zero, List.set_cons_succ, i64_w, i32_w]
        rfl
      refine pure_ (i := 3) (N := some 24) (v := ?_) (a' := ?_) #[true, true, false, true, false, false, false, false, false, false] rfl rfl (by kernel_rfl) (fun _ _ _ h => h) (Or.inl ⟨by rfl, ?_⟩) ?_ ?_
      rotate_left
      · intro w'
        go_simp
        with_reducible rfl
      rotate_left
      · simp only [Act.put, List.setIfInBounds_toArray, List.set_cons_zero, List.set_cons_succ, i64_w, i32_w]
        rfl
      refine take_ (i := 4) (N := some 25) (v := ?_) (a' := ?_) #[true, true, false, true, true, false, false, false, false, false] rfl rfl (by kernel_rfl) (fun _ _ _ h => h) (Or.inl ⟨by rfl, ?_⟩) hHeld ?_ ?_
      rotate_left
      · rintro w' ⟨s0, s1, s2⟩
        go_simp
        with_reducible rfl
      rotate_left
      · simp only [Act.put, List.setIfInBounds_toArray, List.set_cons_zero, List.set_cons_succ, i64_w, i32_w]
        rfl
      refine pure_ (i := 5) (N := some 26) (v := ?_) (a' := ?_) #[true, true, false, true, true, true, false, false, false, false] rfl rfl (by kernel_rfl) (fun _ _ _ h => h) (Or.inl ⟨by rfl, ?_⟩) ?_ ?_
      rotate_left
      · intro w'
        go_simp
        with_reducible rfl
      rotate_left
      · simp only [Act.put, List.setIfInBounds_toArray, List.set_cons_zero, List.set_cons_succ, i64_w, i32_w]
        rfl
      refine take_ (i := 6) (N := some 27) (v := ?_) (a' := ?_) #[true, true, false, true, true, true, true, false, false, false] rfl rfl (by kernel_rfl) (fun _ _ _ h => h) (Or.inl ⟨by rfl, ?_⟩) hHeld ?_ ?_
      rotate_left
      · rintro w' ⟨s0, s1, s2⟩
        go_simp
        with_reducible rfl
      rotate_left
      · simp only [Act.put, List.setIfInBounds_toArray, List.set_cons_zero, List.set_cons_succ, i64_w, i32_w]
        rfl
      refine one_ (i := 2) (N := some 23) #[true, true, true, true, true, true, true, false, false, false] rfl rfl (by kernel_rfl) (by decide) (fun K hK => ?_)
      refine goes_ Tryd.func46 rfl rfl #[.int .i64 (s.f0)] rfl rfl rfl (by (try simp only [List.map_toArray, List.map_cons, List.map_nil, List.append_toArray, List.append_nil, List.nil_append, List.cons_append]); rfl) ?_
      refine (shItoa (s.f0) HOK.out.1.1 _ (HG.out.below (below_drew1 HA2.out.bel))).mono ?_
      rintro e w7 ⟨rfl, hb_w7⟩
      refine ⟨_, rfl, ?_⟩
      refine hK.out _ _ ⟨pw_cell_below hb_w7 hHeld.1, pw_cell_below hb_w7 hHeld.2.1, pw_cell_below hb_w7 hHeld.2.2⟩ (fun hHeld => ?_)
      clear hK K
      refine norm_ (a' := ?_) ?_ ?_
      rotate_left
      · show Act.put _ (some 23) _ = _
        simp only [Act.put, List.setIfInBounds_toArray, List.set_cons_zero, List.set_cons_succ, i64_w, i32_w]
        rfl
      have HB_w7 := Aside0.mk hb_w7
      clear hb_w7
      refine one_ (i := 7) (N := some 28) #[true, true, true, true, true, true, true, true, false, false] rfl rfl (by kernel_rfl) (by decide) (fun K hK => ?_)
      refine goes_ Tryd.func46 rfl rfl #[.int .i64 (s.f2)] rfl rfl rfl (by (try simp only [List.map_toArray, List.map_cons, List.map_nil, List.append_toArray, List.append_nil, List.nil_append, List.cons_append]); rfl) ?_
      refine (shItoa (s.f2) HOK.out.1.2 _ (HG.out.below (below_step (below_drew1 HA2.out.bel) HB_w7.out))).mono ?_
      rintro e w8 ⟨rfl, hb_w8⟩
      refine ⟨_, rfl, ?_⟩
      refine hK.out _ _ ⟨pw_cell_below hb_w8 hHeld.1, pw_cell_below hb_w8 hHeld.2.1, pw_cell_below hb_w8 hHeld.2.2⟩ (fun hHeld => ?_)
      clear hK K
      refine norm_ (a' := ?_) ?_ ?_
      rotate_left
      · show Act.put _ (some 28) _ = _
        simp only [Act.put, List.setIfInBounds_toArray, List.set_cons_zero, List.set_cons_succ, i64_w, i32_w]
        rfl
      have HB_w8 := Aside0.mk hb_w8
      clear hb_w8
      refine one_ (i := 8) (N := some 29) #[true, true, true, true, true, true, true, true, true, false] rfl rfl (by kernel_rfl) (by decide) (fun K hK => ?_)
      refine value_ (v := .slice (some ⟨(w8).heap.size, 0, none⟩) 4 4) (w1 := (w8).alloc (.cells #[.string ⟨#[97, 110, 115, 119, 101, 114]⟩, .string (numT s.f0), .string s.f1, .string (numT s.f2)] 9)) (by rfl) rfl ?_ ?_
      · go_simp
      refine hK.out _ _ ⟨pw_cell_below (below_alloc (Below.refl _ _) _) hHeld.1, pw_cell_below (below_alloc (Below.refl _ _) _) hHeld.2.1, pw_cell_below (below_alloc (Below.refl _ _) _) hHeld.2.2⟩ (fun hHeld => ?_)
      clear hK K
      refine norm_ (a' := ?_) ?_ ?_
      rotate_left
      · show Act.put _ (some 29) _ = _
        simp only [Act.put, List.setIfInBounds_toArray, List.set_cons_zero, List.set_cons_succ, i64_w, i32_w]
        rfl
      refine pure_ (i := 9) (N := some 6) (v := ?_) (a' := ?_) #[true, true, true, true, true, true, true, true, true, true] rfl rfl (by kernel_rfl) (fun _ _ _ h => h) (Or.inl ⟨by rfl, ?_⟩) ?_ ?_
      rotate_left
      · intro w'
        go_simp
        with_reducible rfl
      rotate_left
      · simp only [Act.put, List.setIfInBounds_toArray, List.set_cons_zero, List.set_cons_succ, i64_w, i32_w]
        rfl
      refine done_ (by kernel_rfl) ?_
      clear hHeld
      obtain ⟨W9, hW9⟩ : ∃ W9 : World, W9 = w8.alloc (.cells #[.string ⟨#[97, 110, 115, 119, 101, 114]⟩, .string (numT s.f0), .string s.f1, .string (numT s.f2)] 9) := ⟨_, rfl⟩
      rw [← hW9]
      have hb9 : Below W2.heap.size W2 W9 := by rw [hW9]; exact below_alloc (below_step (below_step (below_drew1 (Below.refl _ _)) HB_w7.out) HB_w8.out) _
      have HP9 := Aside0.mk (show PtsAt w W9 (.slice (some ⟨w8.heap.size, 0, none⟩) 4 4) [⟨#[97, 110, 115, 119, 101, 114]⟩, (numT s.f0), s.f1, (numT s.f2)] by rw [hW9]; exact PtsAt.made [⟨#[97, 110, 115, 119, 101, 114]⟩, (numT s.f0), s.f1, (numT s.f2)] _ (blk_new _ _) (below_size (below_step (below_step (below_drew1 HA2.out.bel) HB_w7.out) HB_w8.out)) (by show 4 ≤ maxLen; unfold maxLen; omega))
      clear hW9
      have HA9 := Aside0.mk (HA2.out.keep hb9)
      have HO9 := Aside0.mk (blk_below HO2.out hb9)
      have HX9 := Aside0.mk (blk_below HX.out hb9)
      clear hb9 HB_w7 HB_w8 HA2 HO2 HX
      generalize w8.heap.size = g9 at HP9 ⊢
      have hy3 : W9.cell? ⟨ga, 3, none⟩ = some (.bool s.f3) := (blk_cell HX9.out 3).trans rfl
      obtain ⟨bq, hbq⟩ : ∃ b_ : Bool, b_ = s.f3 := ⟨_, rfl⟩
      rw [← hbq] at hy3
      have NB := Aside0.mk hbq
      clear hbq
      go_upto_if 31 with (fail)
      go_cut [6] (fun v6 wc => Aside0 (PtsAt w wc v6 (ansH s)) ∧ Aside0 (BldAt w wc (w.heap.size + 1) L) ∧ Aside0 (wc.heap[w.heap.size]? = some (.cells #[.int .i64 a0, .slice (some ad) l1.length c1, .slice A2 l2.length c2, .int .i64 a3, .int .i64 a4, .int .i64 a5, .slice A6 l6.length c6] 37 (0, 0))) ∧ Aside0 (wc.heap[ga]? = some (.cells #[.int .i64 s.f0, .string s.f1, .int .i64 s.f2, .bool s.f3, .slice A4 s.f4.length c4] 77 (0, 0))))
      case first =>
        cases bq with
        | false =>
          go_wp2
          go_meet
          case rel => exact ⟨⟨by rw [show ansH s = [⟨#[97, 110, 115, 119, 101, 114]⟩, (numT s.f0), s.f1, (numT s.f2)] by unfold ansH; rw [← NB.out]; rfl]; exact HP9.out⟩, HA9, HO9, HX9⟩
        | true =>
          go_wp2_with (at_builtin; refine print_append (w0 := w) (W := W9) w.heap.size rfl (.tmp 32) (.tmp 33) 64 9 (.string ⟨#[]⟩) 16 rfl hu6 infoStr rfl (by omega) (.slice (some ⟨g9, 0, none⟩) 4 4) ([⟨#[97, 110, 115, 119, 101, 114]⟩, (numT s.f0), s.f1, (numT s.f2)].map Value.string) (.string ⟨#[102, 117, 108, 108]⟩) rfl rfl rfl HP9.out.own HA9.out.bel (below_size HA9.out.bel) (by simp) ?_; intro v1 w1 ho1 hb1 hg1 _; have HP1 := Aside0.mk (PtsAt.put ho1); have HA1 := Aside0.mk (HA9.out.grown HP9.out hg1 hb1); have HO1 := Aside0.mk (blk_grown HO9.out hg1 (HP9.out.ne HO9.out (by decide))); have HX1 := Aside0.mk (blk_grown HX9.out hg1 (HP9.out.ne HX9.out (by decide))); clear ho1 hb1 hg1)
          go_meet
          case rel => exact ⟨⟨by rw [show ansH s = [⟨#[97, 110, 115, 119, 101, 114]⟩, (numT s.f0), s.f1, (numT s.f2)] ++ [⟨#[102, 117, 108, 108]⟩] by unfold ansH; rw [← NB.out]; rfl]; exact HP1.out⟩, HA1, HO1, HX1⟩
      case rest =>
        clear hy3 HP9 HA9 HO9 HX9 NB
        obtain ⟨HP, HA, HO, HX⟩ := hcut
        have hy4 : wc.cell? ⟨ga, 4, none⟩ = some (.slice A4 s.f4.length c4) := (blk_cell HX.out 4).trans rfl
        go_wp2
        go_loopw [6, 38] (fun v6 v38 w_ => ∃ j : Nat, j ≤ s.f4.length ∧ v38 = .int .i64 j ∧ Aside0 (PtsAt w w_ v6 (ansH s ++ (s.f4.take j).map dgT)) ∧ Aside0 (BldAt w w_ (w.heap.size + 1) L) ∧ Aside0 (w_.heap[w.heap.size]? = some (.cells #[.int .i64 a0, .slice (some ad) l1.length c1, .slice A2 l2.length c2, .int .i64 a3, .int .i64 a4, .int .i64 a5, .slice A6 l6.length c6] 37 (0, 0)))) (fun _ v38 _ => s.f4.length - (intOf v38).toNat)
        case atStart => exact ⟨0, Nat.zero_le _, rfl, ⟨by simpa using HP.out⟩, HA, HO⟩
        case round =>
          clear HP HA HO HX hy4
          obtain ⟨j, hj, rfl, HP, HA, HO⟩ := hrel
          by_cases hjt : j < s.f4.length
          · have p0 : 0 ≤ (j : Int) := by omega
            have q0 : (j : Int) < (s.f4.length : Int) := by omega
            have ql : decide (j < s.f4.length) = true := decide_eq_true hjt
            obtain ⟨ad5, eA, hd0, hd1⟩ := at_T81 HC4.out j p0 q0
            cases eA
            rw [Int.toNat_natCast] at hd0 hd1
            replace hd0 := (HA.out.bel.cell (World.block_lt_of_cell? w _ hd0)).trans hd0
            replace hd1 := (HA.out.bel.cell (World.block_lt_of_cell? w _ hd1)).trans hd1
            have hokd := HOK.out.2.2 _ (rd_memD s.f4 hjt)
            have HDd := Aside0.mk (takeD s.f4 j hjt)
            have HPL := Aside0.mk (show (ansH s ++ (s.f4.take j).map dgT).length ≤ 1099511627800 by have h1 := HOK.out.2.1; rw [List.length_append, List.length_map, List.length_take]; unfold ansH; split <;> simp <;> omega)
            have HJK := Aside0.mk (show wrap64 ((j : Int) + 1) = ((j + 1 : Nat) : Int) by have := HOK.out.2.1; unfold wrap64; omega)
            obtain ⟨P0, hP0⟩ : ∃ P0, P0 = ansH s ++ (s.f4.take j).map dgT := ⟨_, rfl⟩
            have HDe : Aside0 (ansH s ++ (s.f4.take (j + 1)).map dgT = P0 ++ [dgT (rd_T81 s.f4 (j : Int))]) := ⟨by rw [HDd.out, hP0, List.append_assoc]⟩
            rw [← hP0] at HP HPL
            clear hP0 HDd
            obtain ⟨d, hd⟩ : ∃ d, d = rd_T81 s.f4 (j : Int) := ⟨_, rfl⟩
            rw [← hd] at hd0 hd1 hokd HDe
            clear hd
            have HOD := Aside0.mk hokd
            have hz1 : (9223372036854775807 < (numT d.f0).size + 1) = False := by have h1 := numT_size hokd.1; exact eq_false (by omega)
            have hz2 : (9223372036854775807 < (numT d.f0).size + 1 + (numT d.f1).size) = False := by have h1 := numT_size hokd.1; have h2 := numT_size hokd.2; exact eq_false (by omega)
            clear hokd
            go_wp2
            obtain ⟨W2, hW2⟩ : ∃ W2 : World, W2 = wr.alloc (.cells #[.int .i64 d.f0, .int .i64 d.f1] 81) := ⟨_, rfl⟩
            rw [← hW2]
            have hb2 : Below wr.heap.size wr W2 := by rw [hW2]; exact below_alloc (Below.refl _ _) _
            have hx9 : W2.heap[wr.heap.size]? = some (.cells #[.int .i64 d.f0, .int .i64 d.f1] 81 (0, 0)) := by rw [hW2]; exact blk_new _ _
            clear hW2
            have HA2 := Aside0.mk (HA.out.keep hb2)
            have HO2 := Aside0.mk (blk_below HO.out hb2)
            have HP2 := Aside0.mk (HP.out.keep hb2)
            have HX := Aside0.mk hx9
            clear hx9 hb2 hd0 hd1 HA HO HP
            generalize wr.heap.size = gd at HX ⊢
            refine start_ (n := 12) (S := fun w' => w'.cell? ⟨gd, 0, none⟩ = some (.int .i64 d.f0) ∧ w'.cell? ⟨gd, 1, none⟩ = some (.int .i64 d.f1)) (ds := [10]) #[false, false, false, false, false, false, false, false, false, false, false, false] (by kernel_rfl) rfl rfl ⟨(blk_cell HX.out 0).trans rfl, (blk_cell HX.out 1).trans rfl⟩ (fun hHeld => ?_)
            refine pure_ (i := 0) (N := some 42) (v := ?_) (a' := ?_) #[true, false, false, false, false, false, false, false, false, false, false, false] rfl rfl (by kernel_rfl) (fun _ _ _ h => h) (Or.inl ⟨by rfl, ?_⟩) ?_ ?_
            rotate_left
            · intro w'
              go_simp
              with_reducible rfl
            rotate_left
            · simp only [Act.put, List.setIfInBounds_toArray, List.set_cons_zero, List.set_cons_succ, i64_w, i32_w]
              rfl
            refine pure_ (i := 1) (N := some 43) (v := ?_) (a' := ?_) #[true, true, false, false, false, false, false, false, false, false, false, false] rfl rfl (by kernel_rfl) (fun _ _ _ h => h) (Or.inl ⟨by rfl, ?_⟩) ?_ ?_
            rotate_left
            · intro w'
              go_simp
              with_reducible rfl
            rotate_left
            · simp only [Act.put, List.setIfInBounds_toArray, List.set_cons_zero, List.set_cons_succ, i64_w, i32_w]
              rfl
            refine take_ (i := 2) (N := some 44) (v := ?_) (a' := ?_) #[true, true, true, false, false, false, false, false, false, false, false, false] rfl rfl (by kernel_rfl) (fun _ _ _ h => h) (Or.inl ⟨by rfl, ?_⟩) hHeld ?_ ?_
            rotate_left
            · rintro w' ⟨s0, s1⟩
              go_simp
              with_reducible rfl
            rotate_left
            · simp only [Act.put, List.setIfInBounds_toArray, List.set_cons_zero, List.set_cons_succ, i64_w, i32_w]
              rfl
            refine pure_ (i := 5) (N := some 47) (v := ?_) (a' := ?_) #[true, true, true, false, false, true, false, false, false, false, false, false] rfl rfl (by kernel_rfl) (fun _ _ _ h => h) (Or.inl ⟨by rfl, ?_⟩) ?_ ?_
            rotate_left
            · intro w'
              go_simp
              with_reducible rfl
            rotate_left
            · simp only [Act.put, List.setIfInBounds_toArray, List.set_cons_zero, List.set_cons_succ, i64_w, i32_w]
              rfl
            refine take_ (i := 6) (N := some 48) (v := ?_) (a' := ?_) #[true, true, true, false, false, true, true, false, false, false, false, false] rfl rfl (by kernel_rfl) (fun _ _ _ h => h) (Or.inl ⟨by rfl, ?_⟩) hHeld ?_ ?_
            rotate_left
            · rintro w' ⟨s0, s1⟩
              go_simp
              with_reducible rfl
            rotate_left
            · simp only [Act.put, List.setIfInBounds_toArray, List.set_cons_zero, List.set_cons_succ, i64_w, i32_w]
              rfl
            refine one_ (i := 3) (N := some 45) #[true, true, true, true, false, true, true, false, false, false, false, false] rfl rfl (by kernel_rfl) (by decide) (fun K hK => ?_)
            refine goes_ Tryd.func46 rfl rfl #[.int .i64 (d.f0)] rfl rfl rfl (by (try simp only [List.map_toArray, List.map_cons, List.map_nil, List.append_toArray, List.append_nil, List.nil_append, List.cons_append]); rfl) ?_
            refine (shItoa (d.f0) HOD.out.1 _ (HG.out.below (below_drew1 HA2.out.bel))).mono ?_
            rintro e w7 ⟨rfl, hb_w7⟩
            refine ⟨_, rfl, ?_⟩
            refine hK.out _ _ ⟨pw_cell_below hb_w7 hHeld.1, pw_cell_below hb_w7 hHeld.2⟩ (fun hHeld => ?_)
            clear hK K
            refine norm_ (a' := ?_) ?_ ?_
            rotate_left
            · show Act.put _ (some 45) _ = _
              simp only [Act.put, List.setIfInBounds_toArray, List.set_cons_zero, List.set_cons_succ, i64_w, i32_w]
              rfl
            have HB_w7 := Aside0.mk hb_w7
            clear hb_w7
            refine pure_ (i := 4) (N := some 46) (v := ?_) (a' := ?_) #[true, true, true, true, true, true, true, false, false, false, false, false] rfl rfl (by kernel_rfl) (fun _ _ _ h => h) (Or.inl ⟨by rfl, ?_⟩) ?_ ?_
            rotate_left
            · intro w'
              go_simp
              with_reducible rfl
            rotate_left
            · simp only [Act.put, List.setIfInBounds_toArray, List.set_cons_zero, List.set_cons_succ, i64_w, i32_w]
              rfl
            refine one_ (i := 7) (N := some 49) #[true, true, true, true, true, true, true, true, false, false, false, false] rfl rfl (by kernel_rfl) (by decide) (fun K hK => ?_)
            refine goes_ Tryd.func46 rfl rfl #[.int .i64 (d.f1)] rfl rfl rfl (by (try simp only [List.map_toArray, List.map_cons, List.map_nil, List.append_toArray, List.append_nil, List.nil_append, List.cons_append]); rfl) ?_
            refine (shItoa (d.f1) HOD.out.2 _ (HG.out.below (below_step (below_drew1 HA2.out.bel) HB_w7.out))).mono ?_
            rintro e w8 ⟨rfl, hb_w8⟩
            refine ⟨_, rfl, ?_⟩
            refine hK.out _ _ ⟨pw_cell_below hb_w8 hHeld.1, pw_cell_below hb_w8 hHeld.2⟩ (fun hHeld => ?_)
            clear hK K
            refine norm_ (a' := ?_) ?_ ?_
            rotate_left
            · show Act.put _ (some 49) _ = _
              simp only [Act.put, List.setIfInBounds_toArray, List.set_cons_zero, List.set_cons_succ, i64_w, i32_w]
              rfl
            have HB_w8 := Aside0.mk hb_w8
            clear hb_w8
            refine pure_ (i := 8) (N := some 50) (v := ?_) (a' := ?_) #[true, true, true, true, true, true, true, true, true, false, false, false] rfl rfl (by kernel_rfl) (fun _ _ _ h => h) (Or.inl ⟨by rfl, ?_⟩) ?_ ?_
            rotate_left
            · intro w'
              go_simp
              with_reducible rfl
            rotate_left
            · simp only [Act.put, List.setIfInBounds_toArray, List.set_cons_zero, List.set_cons_succ, i64_w, i32_w]
              rfl
            have hb8 : Below W2.heap.size W2 w8 := below_step (below_step (below_drew1 (Below.refl _ _)) HB_w7.out) HB_w8.out
            have HA8 := Aside0.mk (HA2.out.keep hb8)
            have HO8 := Aside0.mk (blk_below HO2.out hb8)
            have HP8 := Aside0.mk (HP2.out.keep hb8)
            clear hb8 HB_w7 HB_w8 HA2 HO2 HP2
            refine one_ (i := 9) (N := some 51) #[true, true, true, true, true, true, true, true, true, true, false, false] rfl rfl (by kernel_rfl) (by decide) (fun K hK => ?_)
            refine value_ (v := .slice (some ⟨(w8).heap.size, 0, none⟩) 1 1) (w1 := (w8).alloc (.cells #[.string (numT d.f0 ++ (⟨#[58]⟩ : ByteArray) ++ numT d.f1)] 9)) (by rfl) rfl ?_ ?_
            · go_simp
            refine hK.out _ _ ⟨pw_cell_below (below_alloc (Below.refl _ _) _) hHeld.1, pw_cell_below (below_alloc (Below.refl _ _) _) hHeld.2⟩ (fun hHeld => ?_)
            clear hK K
            refine norm_ (a' := ?_) ?_ ?_
            rotate_left
            · show Act.put _ (some 51) _ = _
              simp only [Act.put, List.setIfInBounds_toArray, List.set_cons_zero, List.set_cons_succ, i64_w, i32_w]
              rfl
            refine last_ (i := 10) (N := some 52) #[true, true, true, true, true, true, true, true, true, true, true, false] rfl rfl (by kernel_rfl) (by decide) (fun K hK => ?_)
            refine step_append_cells (w0 := w) (W := w8) w.heap.size (by rfl) (.tmp 42) (.tmp 51) 64 9 (.string ⟨#[]⟩) 1 16 rfl hu6 infoStr rfl (by omega) (by omega) u6 _ (P0.map Value.string) [.string (numT d.f0 ++ (⟨#[58]⟩ : ByteArray) ++ numT d.f1)] rfl rfl rfl (by simp [Value.oneCell']) HP8.out HA8.out.bel (below_size HA8.out.bel) (by have := HPL.out; omega) ?_
            intro v1 w1 ho1 hb1 hg1 _
            refine hK.out _ _ ?_
            clear hK K
            refine norm_ (a' := ?_) ?_ ?_
            rotate_left
            · show Act.put _ (some 52) _ = _
              simp only [Act.put, List.setIfInBounds_toArray, List.set_cons_zero, List.set_cons_succ, i64_w, i32_w]
              rfl
            refine pure_ (i := 11) (N := some 6) (v := ?_) (a' := ?_) #[true, true, true, true, true, true, true, true, true, true, true, true] rfl rfl (by kernel_rfl) (fun _ _ _ h => h) (Or.inl ⟨by rfl, ?_⟩) ?_ ?_
            rotate_left
            · intro w'
              go_simp
              with_reducible rfl
            rotate_left
            · simp only [Act.put, List.setIfInBounds_toArray, List.set_cons_zero, List.set_cons_succ, i64_w, i32_w]
              rfl
            refine done_ (by kernel_rfl) ?_
            have HP1 := Aside0.mk (PtsAt.put ho1)
            have HA1 := Aside0.mk (HA8.out.grown HP8.out hg1 hb1)
            have HO1 := Aside0.mk (blk_grown HO8.out hg1 (HP8.out.ne HO8.out (by decide)))
            clear ho1 hb1 hg1 HP8 HA8 HO8 hHeld hz1 hz2
            go_wp2
            rw [HJK.out]
            go_roundw
            case rel => exact ⟨j + 1, by omega, rfl, ⟨by rw [HDe.out]; exact HP1.out⟩, HA1, HO1⟩
            case measure => simp [intOf]; omega
          · obtain rfl : j = s.f4.length := by omega
            have ql : decide (s.f4.length < s.f4.length) = false := decide_eq_false hjt
            rw [List.take_length] at HP
            clear hj hjt
            have HPL := Aside0.mk (show (ansP s).length ≤ 1099511627800 ∧ 0 < (ansP s).length by have h1 := HOK.out.2.1; unfold ansP ansH; simp only [List.length_append, List.length_map, List.length_cons, List.length_nil]; split <;> simp <;> omega)
            obtain ⟨b, c, rfl, hcap, hbl, hcells⟩ := PtsAt.slice (ps := ansP s) HP.out HPL.out.2
            have HCA := Aside0.mk hcap
            have HBL := Aside0.mk hbl
            have HCE := Aside0.mk hcells
            clear hcap hbl hcells HP
            have HK1 := Aside0.mk (show wrap64 ((k : Int) + 1) = ((k + 1 : Nat) : Int) by have := HKL.out; unfold wrap64; omega)
            go_wp2_with (go_at_call 47; refine (words_calls w (w.heap.size + 1) L b 0 c (ansP s) _ HA.out HCE.out HBL.out (by have := HPL.out.1; omega) HCA.out (by have := HLen.out; rw [List.length_append] at this; exact this)).mono ?_; rintro e w9 ⟨rfl, hb9, ho9⟩; have HA9 := Aside0.mk hb9; have HO9 := Aside0.mk (ho9.blk HO.out (by omega) (by decide)); clear hb9 ho9)
            rw [HK1.out]
            go_roundw
            case rel => exact ⟨k + 1, by omega, rfl, ⟨by rw [HD.out]; exact HA9.out⟩, HO9⟩
            case measure => simp [intOf]; omega
    · obtain rfl : k = l1.length := by omega
      have ql : decide (l1.length < l1.length) = false := decide_eq_false hlt
      rw [List.take_length] at HA
      clear hlt hk
      have HLS := Aside0.mk (show ((l1.map ansL).flatten ++ (l2.map ranL).flatten).length + (lineL (endP a0 a3 a4 a5)).length ≤ 140737488355328 by have h2 := G.out.1; unfold showL at h2; rw [List.length_append] at h2; exact h2)
      obtain ⟨L1, hL1⟩ : ∃ L1, L1 = (l1.map ansL).flatten := ⟨_, rfl⟩
      rw [← hL1] at HA HLS
      have HL1 := Aside0.mk hL1
      clear hL1
      have HM0 := Aside0.mk (KMap.made wr)
      have HA0 := Aside0.mk (HA.out.keep (below_alloc (Below.refl _ _) (.map #[] 0)))
      have HO0 := Aside0.mk (blk_alloc HO.out (.map #[] 0))
      have HGE := Aside0.mk (below_size HA.out.bel)
      clear HA HO
      go_wp2_with (first | (refine wpList_kmap_insert rfl (.tmp 57) (.const (.int .i64 1)) (.const (.string ⟨#[112, 97, 114, 115, 101]⟩)) rfl rfl HM0.out (by decide) 1 (by decide) ⟨#[112, 97, 114, 115, 101]⟩ (by decide) rfl rfl ?_; intro w1 hm1 hg1; have HM1 := Aside0.mk hm1; have HA1 := Aside0.mk (HA0.out.grownM HM0.out hg1 HGE.out); have HO1 := Aside0.mk (blk_grown HO0.out hg1 (fun e => HM0.out.ne HO0.out (Option.some.inj e).symm)); clear hm1 hg1 HM0 HA0 HO0) | (refine wpList_kmap_insert rfl (.tmp 57) (.const (.int .i64 2)) (.const (.string ⟨#[115, 105, 103, 110]⟩)) rfl rfl HM1.out (by decide) 2 (by decide) ⟨#[115, 105, 103, 110]⟩ (by decide) rfl rfl ?_; intro w1 hm1 hg1; have HM2 := Aside0.mk hm1; have HA2 := Aside0.mk (HA1.out.grownM HM1.out hg1 HGE.out); have HO2 := Aside0.mk (blk_grown HO1.out hg1 (fun e => HM1.out.ne HO1.out (Option.some.inj e).symm)); clear hm1 hg1 HM1 HA1 HO1) | (refine wpList_kmap_insert rfl (.tmp 57) (.const (.int .i64 3)) (.const (.string ⟨#[99, 104, 101, 99, 107]⟩)) rfl rfl HM2.out (by decide) 3 (by decide) ⟨#[99, 104, 101, 99, 107]⟩ (by decide) rfl rfl ?_; intro w1 hm1 hg1; have HM3 := Aside0.mk hm1; have HA3 := Aside0.mk (HA2.out.grownM HM2.out hg1 HGE.out); have HO3 := Aside0.mk (blk_grown HO2.out hg1 (fun e => HM2.out.ne HO2.out (Option.some.inj e).symm)); clear hm1 hg1 HM2 HA2 HO2; have hy2 : w1.cell? ⟨w.heap.size, 2, none⟩ = some (.slice A2 l2.length c2) := (blk_cell HO3.out 2).trans rfl))
      have HM := Aside0.mk (show KMap _ _ 3 kindF from HM3.out)
      clear HM3 HGE
      generalize wr.heap.size = gm at HM ⊢
      go_loopw [62] (fun i w_ => ∃ k : Nat, k ≤ l2.length ∧ i = .int .i64 k ∧ Aside0 (BldAt w w_ (w.heap.size + 1) (L1 ++ ((l2.take k).map ranL).flatten)) ∧ Aside0 (w_.heap[w.heap.size]? = some (.cells #[.int .i64 a0, .slice A1 l1.length c1, .slice A2 l2.length c2, .int .i64 a3, .int .i64 a4, .int .i64 a5, .slice A6 l6.length c6] 37 (0, 0))) ∧ Aside0 (KMap w_ gm 3 kindF)) (fun i _ => l2.length - (intOf i).toNat)
      case atStart => exact ⟨0, Nat.zero_le _, rfl, ⟨by simpa using HA3.out⟩, HO3, HM⟩
      case round =>
        clear HA3 HO3 HM hy2
        obtain ⟨k, hk, rfl, HA, HO, HM⟩ := hrel
        by_cases hlt : k < l2.length
        · have p0 : 0 ≤ (k : Int) := by omega
          have q0 : (k : Int) < (l2.length : Int) := by omega
          have ql : decide (k < l2.length) = true := decide_eq_true hlt
          obtain ⟨ad, eA, hx0, hx1, hx2, hx3⟩ := at_T85 HR2.out k p0 q0
          cases eA
          rw [Int.toNat_natCast] at hx0 hx1 hx2 hx3
          replace hx0 := (HA.out.bel.cell (World.block_lt_of_cell? w _ hx0)).trans hx0
          replace hx1 := (HA.out.bel.cell (World.block_lt_of_cell? w _ hx1)).trans hx1
          replace hx2 := (HA.out.bel.cell (World.block_lt_of_cell? w _ hx2)).trans hx2
          replace hx3 := (HA.out.bel.cell (World.block_lt_of_cell? w _ hx3)).trans hx3
          have hok := G.out.2.2.1.2 _ (rd_memR l2 hlt)
          have HD := Aside0.mk (takeR l2 k hlt)
          have HLen := Aside0.mk (show (L1 ++ ((l2.take (k + 1)).map ranL).flatten).length ≤ 140737488355328 by have h1 := flat_le ranL l2 (k + 1); have h2 := HLS.out; rw [List.length_append] at h2 ⊢; omega)
          have HK1 := Aside0.mk (show wrap64 ((k : Int) + 1) = ((k + 1 : Nat) : Int) by have := G.out.2.2.1.1; unfold wrap64; omega)
          rw [HD.out, ← List.append_assoc] at HLen
          have HDe := Aside0.mk (show L1 ++ ((l2.take (k + 1)).map ranL).flatten = (L1 ++ ((l2.take k).map ranL).flatten) ++ ranL (rd_T85 l2 (k : Int)) by rw [HD.out, List.append_assoc])
          clear HD
          obtain ⟨L, hL⟩ : ∃ L, L = (L1 ++ ((l2.take k).map ranL).flatten) := ⟨_, rfl⟩
          rw [← hL] at HA HDe HLen
          clear hL
          obtain ⟨s, hs⟩ : ∃ s, s = rd_T85 l2 (k : Int) := ⟨_, rfl⟩
          rw [← hs] at hx0 hx1 hx2 hx3 hok HDe HLen
          clear hs
          have HOK := Aside0.mk hok
          have hlk := (HM.out.keep (below_alloc (Below.refl _ _) (.cells #[.int .i64 s.f0.f0, .string s.f0.f1, .int .i64 s.f1, .int .i64 s.f2] 85))).lookup s.f0.f0 hok.1
          obtain ⟨bq, hbq⟩ : ∃ b_ : Bool, b_ = (kindF s.f0.f0).isSome := ⟨_, rfl⟩
          obtain ⟨kt, hkt⟩ : ∃ b_ : ByteArray, b_ = (kindF s.f0.f0).getD ⟨#[]⟩ := ⟨_, rfl⟩
          rw [← hbq, ← hkt] at hlk
          have NB := Aside0.mk hbq
          have NK := Aside0.mk hkt
          clear hbq hkt hok
          go_upto_if 75 with (fail)
          clear hlk hx0 hx1 hx2 hx3
          obtain ⟨W2, hW2⟩ : ∃ W2 : World, W2 = wr.alloc (.cells #[.int .i64 s.f0.f0, .string s.f0.f1, .int .i64 s.f1, .int .i64 s.f2] 85) := ⟨_, rfl⟩
          rw [← hW2]
          have hb2 : Below wr.heap.size wr W2 := by rw [hW2]; exact below_alloc (Below.refl _ _) _
          have hx9 : W2.heap[wr.heap.size]? = some (.cells #[.int .i64 s.f0.f0, .string s.f0.f1, .int .i64 s.f1, .int .i64 s.f2] 85 (0, 0)) := by rw [hW2]; exact blk_new _ _
          clear hW2
          have HA2 := Aside0.mk (HA.out.keep hb2)
          have HO2 := Aside0.mk (blk_below HO.out hb2)
          have HM2 := Aside0.mk (HM.out.keep hb2)
          have HX := Aside0.mk hx9
          clear hx9 hb2 HA HO HM
          generalize wr.heap.size = gr at HX ⊢
          go_cut [12] (fun v12 wc => v12 = .string (kindT s.f0.f0) ∧ Aside0 (BldAt w wc (w.heap.size + 1) L) ∧ Aside0 (wc.heap[w.heap.size]? = some (.cells #[.int .i64 a0, .slice A1 l1.length c1, .slice (some ad) l2.length c2, .int .i64 a3, .int .i64 a4, .int .i64 a5, .slice A6 l6.length c6] 37 (0, 0))) ∧ Aside0 (KMap wc gm 3 kindF) ∧ Aside0 (wc.heap[gr]? = some (.cells #[.int .i64 s.f0.f0, .string s.f0.f1, .int .i64 s.f1, .int .i64 s.f2] 85 (0, 0))))
          case first =>
            cases bq with
            | false =>
              go_wp2
              go_meet
              case rel => exact ⟨congrArg Value.string (kindT_none NB.out.symm), HA2, HO2, HM2, HX⟩
            | true =>
              go_wp2
              go_meet
              case rel => exact ⟨congrArg Value.string (NK.out.trans (kindT_some NB.out.symm)), HA2, HO2, HM2, HX⟩
          case rest =>
            clear HA2 HO2 HM2 HX NB NK
            obtain ⟨rfl, HA, HO, HM, HX⟩ := hcut
            try go_wp2
            refine start_ (n := 12) (S := fun w' => w'.cell? ⟨gr, 1, none⟩ = some (.string s.f0.f1) ∧ w'.cell? ⟨gr, 2, none⟩ = some (.int .i64 s.f1) ∧ w'.cell? ⟨gr, 3, none⟩ = some (.int .i64 s.f2)) (ds := [11]) #[false, false, false, false, false, false, false, false, false, false, false, false] (by kernel_rfl) rfl rfl ⟨(blk_cell HX.out 1).trans rfl, (blk_cell HX.out 2).trans rfl, (blk_cell HX.out 3).trans rfl⟩ (fun hHeld => ?_)
            refine pure_ (i := 0) (N := some 76) (v := ?_) (a' := ?_) #[true, false, false, false, false, false, false, false, false, false, false, false] rfl rfl (by kernel_rfl) (fun _ _ _ h => h) (Or.inl ⟨by rfl, ?_⟩) ?_ ?_
            rotate_left
            · intro w'
              go_simp
              with_reducible rfl
            rotate_left
            · simp only [Act.put, List.setIfInBounds_toArray, List.set_cons_zero, List.set_cons_succ, i64_w, i32_w]
              rfl
            refine pure_ (i := 1) (N := some 77) (v := ?_) (a' := ?_) #[true, true, false, false, false, false, false, false, false, false, false, false] rfl rfl (by kernel_rfl) (fun _ _ _ h => h) (Or.inl ⟨by rfl, ?_⟩) ?_ ?_
            rotate_left
            · intro w'
              go_simp
              with_reducible rfl
            rotate_left
            · simp only [Act.put, List.setIfInBounds_toArray, List.set_cons_zero, List.set_cons_succ, i64_w, i32_w]
              rfl
            refine pure_ (i := 2) (N := some 78) (v := ?_) (a' := ?_) #[true, true, true, false, false, false, false, false, false, false, false, false] rfl rfl (by kernel_rfl) (fun _ _ _ h => h) (Or.inl ⟨by rfl, ?_⟩) ?_ ?_
            rotate_left
            · intro w'
              go_simp
              with_reducible rfl
            rotate_left
            · simp only [Act.put, List.setIfInBounds_toArray, List.set_cons_zero, List.set_cons_succ, i64_w, i32_w]
              rfl
            refine take_ (i := 3) (N := some 79) (v := ?_) (a' := ?_) #[true, true, true, true, false, false, false, false, false, false, false, false] rfl rfl (by kernel_rfl) (fun _ _ _ h => h) (Or.inl ⟨by rfl, ?_⟩) hHeld ?_ ?_
            rotate_left
            · rintro w' ⟨s0, s1, s2⟩
              go_simp
              with_reducible rfl
            rotate_left
            · simp only [Act.put, List.setIfInBounds_toArray, List.set_cons_zero, List.set_cons_succ, i64_w, i32_w]
              rfl
            refine pure_ (i := 4) (N := some 80) (v := ?_) (a' := ?_) #[true, true, true, true, true, false, false, false, false, false, false, false] rfl rfl (by kernel_rfl) (fun _ _ _ h => h) (Or.inl ⟨by rfl, ?_⟩) ?_ ?_
            rotate_left
            · intro w'
              go_simp
              with_reducible rfl
            rotate_left
            · simp only [Act.put, List.setIfInBounds_toArray, List.set_cons_zero, List.set_cons_succ, i64_w, i32_w]
              rfl
            refine take_ (i := 5) (N := some 81) (v := ?_) (a' := ?_) #[true, true, true, true, true, true, false, false, false, false, false, false] rfl rfl (by kernel_rfl) (fun _ _ _ h => h) (Or.inl ⟨by rfl, ?_⟩) hHeld ?_ ?_
            rotate_left
            · rintro w' ⟨s0, s1, s2⟩
              go_simp
              with_reducible rfl
            rotate_left
            · simp only [Act.put, List.setIfInBounds_toArray, List.set_cons_zero, List.set_cons_succ, i64_w, i32_w]
              rfl
            refine pure_ (i := 7) (N := some 83) (v := ?_) (a' := ?_) #[true, true, true, true, true, true, false, true, false, false, false, false] rfl rfl (by kernel_rfl) (fun _ _ _ h => h) (Or.inl ⟨by rfl, ?_⟩) ?_ ?_
            rotate_left
            · intro w'
              go_simp
              with_reducible rfl
            rotate_left
            · simp only [Act.put, List.setIfInBounds_toArray, List.set_cons_zero, List.set_cons_succ, i64_w, i32_w]
              rfl
            refine take_ (i := 8) (N := some 84) (v := ?_) (a' := ?_) #[true, true, true, true, true, true, false, true, true, false, false, false] rfl rfl (by kernel_rfl) (fun _ _ _ h => h) (Or.inl ⟨by rfl, ?_⟩) hHeld ?_ ?_
            rotate_left
            · rintro w' ⟨s0, s1, s2⟩
              go_simp
              with_reducible rfl
            rotate_left
            · simp only [Act.put, List.setIfInBounds_toArray, List.set_cons_zero, List.set_cons_succ, i64_w, i32_w]
              rfl
            refine one_ (i := 6) (N := some 82) #[true, true, true, true, true, true, true, true, true, false, false, false] rfl rfl (by kernel_rfl) (by decide) (fun K hK => ?_)
            refine goes_ Tryd.func46 rfl rfl #[.int .i64 (s.f1)] rfl rfl rfl (by (try simp only [List.map_toArray, List.map_cons, List.map_nil, List.append_toArray, List.append_nil, List.nil_append, List.cons_append]); rfl) ?_
            refine (shItoa (s.f1) HOK.out.2.1 _ (HG.out.below (below_drew1 HA.out.bel))).mono ?_
            rintro e w7 ⟨rfl, hb_w7⟩
            refine ⟨_, rfl, ?_⟩
            refine hK.out _ _ ⟨pw_cell_below hb_w7 hHeld.1, pw_cell_below hb_w7 hHeld.2.1, pw_cell_below hb_w7 hHeld.2.2⟩ (fun hHeld => ?_)
            clear hK K
            refine norm_ (a' := ?_) ?_ ?_
            rotate_left
            · show Act.put _ (some 82) _ = _
              simp only [Act.put, List.setIfInBounds_toArray, List.set_cons_zero, List.set_cons_succ, i64_w, i32_w]
              rfl
            have HB_w7 := Aside0.mk hb_w7
            clear hb_w7
            refine one_ (i := 9) (N := some 85) #[true, true, true, true, true, true, true, true, true, true, false, false] rfl rfl (by kernel_rfl) (by decide) (fun K hK => ?_)
            refine goes_ Tryd.func46 rfl rfl #[.int .i64 (s.f2)] rfl rfl rfl (by (try simp only [List.map_toArray, List.map_cons, List.map_nil, List.append_toArray, List.append_nil, List.nil_append, List.cons_append]); rfl) ?_
            refine (shItoa (s.f2) HOK.out.2.2 _ (HG.out.below (below_step (below_drew1 HA.out.bel) HB_w7.out))).mono ?_
            rintro e w8 ⟨rfl, hb_w8⟩
            refine ⟨_, rfl, ?_⟩
            refine hK.out _ _ ⟨pw_cell_below hb_w8 hHeld.1, pw_cell_below hb_w8 hHeld.2.1, pw_cell_below hb_w8 hHeld.2.2⟩ (fun hHeld => ?_)
            clear hK K
            refine norm_ (a' := ?_) ?_ ?_
            rotate_left
            · show Act.put _ (some 85) _ = _
              simp only [Act.put, List.setIfInBounds_toArray, List.set_cons_zero, List.set_cons_succ, i64_w, i32_w]
              rfl
            have HB_w8 := Aside0.mk hb_w8
            clear hb_w8
            refine one_ (i := 10) (N := some 86) #[true, true, true, true, true, true, true, true, true, true, true, false] rfl rfl (by kernel_rfl) (by decide) (fun K hK => ?_)
            refine value_ (v := .slice (some ⟨(w8).heap.size, 0, none⟩) 5 5) (w1 := (w8).alloc (.cells #[.string ⟨#[114, 97, 110]⟩, .string (kindT s.f0.f0), .string s.f0.f1, .string (numT s.f1), .string (numT s.f2)] 9)) (by rfl) rfl ?_ ?_
            · go_simp
            refine hK.out _ _ ⟨pw_cell_below (below_alloc (Below.refl _ _) _) hHeld.1, pw_cell_below (below_alloc (Below.refl _ _) _) hHeld.2.1, pw_cell_below (below_alloc (Below.refl _ _) _) hHeld.2.2⟩ (fun hHeld => ?_)
            clear hK K
            refine norm_ (a' := ?_) ?_ ?_
            rotate_left
            · show Act.put _ (some 86) _ = _
              simp only [Act.put, List.setIfInBounds_toArray, List.set_cons_zero, List.set_cons_succ, i64_w, i32_w]
              rfl
            obtain ⟨W9, hW9⟩ : ∃ W9 : World, W9 = w8.alloc (.cells #[.string ⟨#[114, 97, 110]⟩, .string (kindT s.f0.f0), .string s.f0.f1, .string (numT s.f1), .string (numT s.f2)] 9) := ⟨_, rfl⟩
            rw [← hW9] at hHeld ⊢
            have hb9 : Below wc.heap.size wc W9 := by rw [hW9]; exact below_alloc (below_step (below_step (below_drew1 (Below.refl _ _)) HB_w7.out) HB_w8.out) _
            have hx9 : W9.heap[w8.heap.size]? = some (.cells ([⟨#[114, 97, 110]⟩, (kindT s.f0.f0), s.f0.f1, (numT s.f1), (numT s.f2)].map Value.string).toArray 9 (0, 0)) := by rw [hW9]; exact blk_new _ _
            clear hW9
            have HA9 := Aside0.mk (HA.out.keep hb9)
            have HO9 := Aside0.mk (blk_below HO.out hb9)
            have HM9 := Aside0.mk (HM.out.keep hb9)
            have HX9 := Aside0.mk hx9
            clear hx9 hb9
            generalize w8.heap.size = g9 at HX9 ⊢
            refine last_ (i := 11) (N := some 87) #[true, true, true, true, true, true, true, true, true, true, true, true] rfl rfl (by kernel_rfl) (by decide) (fun K hK => ?_)
            refine goes_ Tryd.func47 rfl rfl #[.pointer (some ⟨w.heap.size + 1, 0, none⟩), .slice (some ⟨g9, 0, none⟩) 5 5] rfl rfl rfl (by (try simp only [List.map_toArray, List.map_cons, List.map_nil, List.append_toArray, List.append_nil, List.nil_append, List.cons_append]); rfl) ?_
            refine (words_calls w (w.heap.size + 1) L g9 0 5 [⟨#[114, 97, 110]⟩, (kindT s.f0.f0), s.f0.f1, (numT s.f1), (numT s.f2)] _ HA9.out (made_cells HX9.out) (blk_lt HX9.out) (by simp) (by simp) (by have := HLen.out; rw [List.length_append] at this; exact this)).mono ?_
            rintro e w9 ⟨rfl, hb9, ho9⟩
            refine ⟨_, rfl, ?_⟩
            refine hK.out _ _ ?_
            clear hK K
            refine norm_ (a' := ?_) ?_ ?_
            rotate_left
            · show Act.put _ (some 87) _ = _
              simp only [Act.put, List.setIfInBounds_toArray, List.set_cons_zero, List.set_cons_succ, i64_w, i32_w]
              rfl
            refine done_ (by kernel_rfl) ?_
            have HA1 := Aside0.mk hb9
            have HO1 := Aside0.mk (ho9.blk HO9.out (by omega) (by decide))
            have HM1 := Aside0.mk (HM9.out.oth ho9 (HA9.out.ne_map HM9.out))
            clear hb9 ho9 hHeld
            go_wp2
            rw [HK1.out]
            go_roundw
            case rel => exact ⟨k + 1, by omega, rfl, ⟨by rw [HDe.out]; exact HA1.out⟩, HO1, HM1⟩
            case measure => simp [intOf]; omega
        · obtain rfl : k = l2.length := by omega
          have ql : decide (l2.length < l2.length) = false := decide_eq_false hlt
          rw [List.take_length] at HA
          clear hlt hk
          go_wp2
          refine start_ (n := 14) (S := fun w' => w'.cell? ⟨w.heap.size, 0, none⟩ = some (.int .i64 a0) ∧ w'.cell? ⟨w.heap.size, 3, none⟩ = some (.int .i64 a3) ∧ w'.cell? ⟨w.heap.size, 4, none⟩ = some (.int .i64 a4) ∧ w'.cell? ⟨w.heap.size, 5, none⟩ = some (.int .i64 a5)) (ds := [13]) #[false, false, false, false, false, false, false, false, false, false, false, false, false, false] (by kernel_rfl) rfl rfl ⟨(blk_cell HO.out 0).trans rfl, (blk_cell HO.out 3).trans rfl, (blk_cell HO.out 4).trans rfl, (blk_cell HO.out 5).trans rfl⟩ (fun hHeld => ?_)
          refine pure_ (i := 0) (N := some 89) (v := ?_) (a' := ?_) #[true, false, false, false, false, false, false, false, false, false, false, false, false, false] rfl rfl (by kernel_rfl) (fun _ _ _ h => h) (Or.inl ⟨by rfl, ?_⟩) ?_ ?_
          rotate_left
          · intro w'
            go_simp
            with_reducible rfl
          rotate_left
          · simp only [Act.put, List.setIfInBounds_toArray, List.set_cons_zero, List.set_cons_succ, i64_w, i32_w]
            rfl
          refine take_ (i := 1) (N := some 90) (v := ?_) (a' := ?_) #[true, true, false, false, false, false, false, false, false, false, false, false, false, false] rfl rfl (by kernel_rfl) (fun _ _ _ h => h) (Or.inl ⟨by rfl, ?_⟩) hHeld ?_ ?_
          rotate_left
          · rintro w' ⟨s0, s1, s2, s3⟩
            go_simp
            with_reducible rfl
          rotate_left
          · simp only [Act.put, List.setIfInBounds_toArray, List.set_cons_zero, List.set_cons_succ, i64_w, i32_w]
            rfl
          refine pure_ (i := 3) (N := some 92) (v := ?_) (a' := ?_) #[true, true, false, true, false, false, false, false, false, false, false, false, false, false] rfl rfl (by kernel_rfl) (fun _ _ _ h => h) (Or.inl ⟨by rfl, ?_⟩) ?_ ?_
          rotate_left
          · intro w'
            go_simp
            with_reducible rfl
          rotate_left
          · simp only [Act.put, List.setIfInBounds_toArray, List.set_cons_zero, List.set_cons_succ, i64_w, i32_w]
            rfl
          refine take_ (i := 4) (N := some 93) (v := ?_) (a' := ?_) #[true, true, false, true, true, false, false, false, false, false, false, false, false, false] rfl rfl (by kernel_rfl) (fun _ _ _ h => h) (Or.inl ⟨by rfl, ?_⟩) hHeld ?_ ?_
          rotate_left
          · rintro w' ⟨s0, s1, s2, s3⟩
            go_simp
            with_reducible rfl
          rotate_left
          · simp only [Act.put, List.setIfInBounds_toArray, List.set_cons_zero, List.set_cons_succ, i64_w, i32_w]
            rfl
          refine pure_ (i := 6) (N := some 95) (v := ?_) (a' := ?_) #[true, true, false, true, true, false, true, false, false, false, false, false, false, false] rfl rfl (by kernel_rfl) (fun _ _ _ h => h) (Or.inl ⟨by rfl, ?_⟩) ?_ ?_
          rotate_left
          · intro w'
            go_simp
            with_reducible rfl
          rotate_left
          · simp only [Act.put, List.setIfInBounds_toArray, List.set_cons_zero, List.set_cons_succ, i64_w, i32_w]
            rfl
          refine take_ (i := 7) (N := some 96) (v := ?_) (a' := ?_) #[true, true, false, true, true, false, true, true, false, false, false, false, false, false] rfl rfl (by kernel_rfl) (fun _ _ _ h => h) (Or.inl ⟨by rfl, ?_⟩) hHeld ?_ ?_
          rotate_left
          · rintro w' ⟨s0, s1, s2, s3⟩
            go_simp
            with_reducible rfl
          rotate_left
          · simp only [Act.put, List.setIfInBounds_toArray, List.set_cons_zero, List.set_cons_succ, i64_w, i32_w]
            rfl
          refine pure_ (i := 9) (N := some 98) (v := ?_) (a' := ?_) #[true, true, false, true, true, false, true, true, false, true, false, false, false, false] rfl rfl (by kernel_rfl) (fun _ _ _ h => h) (Or.inl ⟨by rfl, ?_⟩) ?_ ?_
          rotate_left
          · intro w'
            go_simp
            with_reducible rfl
          rotate_left
          · simp only [Act.put, List.setIfInBounds_toArray, List.set_cons_zero, List.set_cons_succ, i64_w, i32_w]
            rfl
          refine take_ (i := 10) (N := some 99) (v := ?_) (a' := ?_) #[true, true, false, true, true, false, true, true, false, true, true, false, false, false] rfl rfl (by kernel_rfl) (fun _ _ _ h => h) (Or.inl ⟨by rfl, ?_⟩) hHeld ?_ ?_
          rotate_left
          · rintro w' ⟨s0, s1, s2, s3⟩
            go_simp
            with_reducible rfl
          rotate_left
          · simp only [Act.put, List.setIfInBounds_toArray, List.set_cons_zero, List.set_cons_succ, i64_w, i32_w]
            rfl
          refine one_ (i := 2) (N := some 91) #[true, true, true, true, true, false, true, true, false, true, true, false, false, false] rfl rfl (by kernel_rfl) (by decide) (fun K hK => ?_)
          refine goes_ Tryd.func46 rfl rfl #[.int .i64 (a0)] rfl rfl rfl (by (try simp only [List.map_toArray, List.map_cons, List.map_nil, List.append_toArray, List.append_nil, List.nil_append, List.cons_append]); rfl) ?_
          refine (shItoa (a0) G.out.2.2.2.1 _ (HG.out.below (below_drew1 HA.out.bel))).mono ?_
          rintro e w5 ⟨rfl, hb_w5⟩
          refine ⟨_, rfl, ?_⟩
          refine hK.out _ _ ⟨pw_cell_below hb_w5 hHeld.1, pw_cell_below hb_w5 hHeld.2.1, pw_cell_below hb_w5 hHeld.2.2.1, pw_cell_below hb_w5 hHeld.2.2.2⟩ (fun hHeld => ?_)
          clear hK K
          refine norm_ (a' := ?_) ?_ ?_
          rotate_left
          · show Act.put _ (some 91) _ = _
            simp only [Act.put, List.setIfInBounds_toArray, List.set_cons_zero, List.set_cons_succ, i64_w, i32_w]
            rfl
          have HB_w5 := Aside0.mk hb_w5
          clear hb_w5
          refine one_ (i := 5) (N := some 94) #[true, true, true, true, true, true, true, true, false, true, true, false, false, false] rfl rfl (by kernel_rfl) (by decide) (fun K hK => ?_)
          refine goes_ Tryd.func46 rfl rfl #[.int .i64 (a4)] rfl rfl rfl (by (try simp only [List.map_toArray, List.map_cons, List.map_nil, List.append_toArray, List.append_nil, List.nil_append, List.cons_append]); rfl) ?_
          refine (shItoa (a4) G.out.2.2.2.2.2.1 _ (HG.out.below (below_step (below_drew1 HA.out.bel) HB_w5.out))).mono ?_
          rintro e w6 ⟨rfl, hb_w6⟩
          refine ⟨_, rfl, ?_⟩
          refine hK.out _ _ ⟨pw_cell_below hb_w6 hHeld.1, pw_cell_below hb_w6 hHeld.2.1, pw_cell_below hb_w6 hHeld.2.2.1, pw_cell_below hb_w6 hHeld.2.2.2⟩ (fun hHeld => ?_)
          clear hK K
          refine norm_ (a' := ?_) ?_ ?_
          rotate_left
          · show Act.put _ (some 94) _ = _
            simp only [Act.put, List.setIfInBounds_toArray, List.set_cons_zero, List.set_cons_succ, i64_w, i32_w]
            rfl
          have HB_w6 := Aside0.mk hb_w6
          clear hb_w6
          refine one_ (i := 8) (N := some 97) #[true, true, true, true, true, true, true, true, true, true, true, false, false, false] rfl rfl (by kernel_rfl) (by decide) (fun K hK => ?_)
          refine goes_ Tryd.func46 rfl rfl #[.int .i64 (a3)] rfl rfl rfl (by (try simp only [List.map_toArray, List.map_cons, List.map_nil, List.append_toArray, List.append_nil, List.nil_append, List.cons_append]); rfl) ?_
          refine (shItoa (a3) G.out.2.2.2.2.1 _ (HG.out.below (below_step (below_step (below_drew1 HA.out.bel) HB_w5.out) HB_w6.out))).mono ?_
          rintro e w7 ⟨rfl, hb_w7⟩
          refine ⟨_, rfl, ?_⟩
          refine hK.out _ _ ⟨pw_cell_below hb_w7 hHeld.1, pw_cell_below hb_w7 hHeld.2.1, pw_cell_below hb_w7 hHeld.2.2.1, pw_cell_below hb_w7 hHeld.2.2.2⟩ (fun hHeld => ?_)
          clear hK K
          refine norm_ (a' := ?_) ?_ ?_
          rotate_left
          · show Act.put _ (some 97) _ = _
            simp only [Act.put, List.setIfInBounds_toArray, List.set_cons_zero, List.set_cons_succ, i64_w, i32_w]
            rfl
          have HB_w7 := Aside0.mk hb_w7
          clear hb_w7
          refine one_ (i := 11) (N := some 100) #[true, true, true, true, true, true, true, true, true, true, true, true, false, false] rfl rfl (by kernel_rfl) (by decide) (fun K hK => ?_)
          refine goes_ Tryd.func46 rfl rfl #[.int .i64 (a5)] rfl rfl rfl (by (try simp only [List.map_toArray, List.map_cons, List.map_nil, List.append_toArray, List.append_nil, List.nil_append, List.cons_append]); rfl) ?_
          refine (shItoa (a5) G.out.2.2.2.2.2.2 _ (HG.out.below (below_step (below_step (below_step (below_drew1 HA.out.bel) HB_w5.out) HB_w6.out) HB_w7.out))).mono ?_
          rintro e w8 ⟨rfl, hb_w8⟩
          refine ⟨_, rfl, ?_⟩
          refine hK.out _ _ ⟨pw_cell_below hb_w8 hHeld.1, pw_cell_below hb_w8 hHeld.2.1, pw_cell_below hb_w8 hHeld.2.2.1, pw_cell_below hb_w8 hHeld.2.2.2⟩ (fun hHeld => ?_)
          clear hK K
          refine norm_ (a' := ?_) ?_ ?_
          rotate_left
          · show Act.put _ (some 100) _ = _
            simp only [Act.put, List.setIfInBounds_toArray, List.set_cons_zero, List.set_cons_succ, i64_w, i32_w]
            rfl
          have HB_w8 := Aside0.mk hb_w8
          clear hb_w8
          refine one_ (i := 12) (N := some 101) #[true, true, true, true, true, true, true, true, true, true, true, true, true, false] rfl rfl (by kernel_rfl) (by decide) (fun K hK => ?_)
          refine value_ (v := .slice (some ⟨(w8).heap.size, 0, none⟩) 5 5) (w1 := (w8).alloc (.cells #[.string ⟨#[101, 110, 100]⟩, .string (numT a0), .string (numT a4), .string (numT a3), .string (numT a5)] 9)) (by rfl) rfl ?_ ?_
          · go_simp
          refine hK.out _ _ ⟨pw_cell_below (below_alloc (Below.refl _ _) _) hHeld.1, pw_cell_below (below_alloc (Below.refl _ _) _) hHeld.2.1, pw_cell_below (below_alloc (Below.refl _ _) _) hHeld.2.2.1, pw_cell_below (below_alloc (Below.refl _ _) _) hHeld.2.2.2⟩ (fun hHeld => ?_)
          clear hK K
          refine norm_ (a' := ?_) ?_ ?_
          rotate_left
          · show Act.put _ (some 101) _ = _
            simp only [Act.put, List.setIfInBounds_toArray, List.set_cons_zero, List.set_cons_succ, i64_w, i32_w]
            rfl
          obtain ⟨W9, hW9⟩ : ∃ W9 : World, W9 = w8.alloc (.cells #[.string ⟨#[101, 110, 100]⟩, .string (numT a0), .string (numT a4), .string (numT a3), .string (numT a5)] 9) := ⟨_, rfl⟩
          rw [← hW9] at hHeld ⊢
          have hb9 : Below wr.heap.size wr W9 := by rw [hW9]; exact below_alloc (below_step (below_step (below_step (below_step (below_drew1 (Below.refl _ _)) HB_w5.out) HB_w6.out) HB_w7.out) HB_w8.out) _
          have hx9 : W9.heap[w8.heap.size]? = some (.cells ([⟨#[101, 110, 100]⟩, (numT a0), (numT a4), (numT a3), (numT a5)].map Value.string).toArray 9 (0, 0)) := by rw [hW9]; exact blk_new _ _
          clear hW9
          have HA9 := Aside0.mk (HA.out.keep hb9)
          have HO9 := Aside0.mk (blk_below HO.out hb9)
          have HM9 := Aside0.mk (HM.out.keep hb9)
          have HX9 := Aside0.mk hx9
          clear hx9 hb9
          generalize w8.heap.size = g9 at HX9 ⊢
          refine last_ (i := 13) (N := some 102) #[true, true, true, true, true, true, true, true, true, true, true, true, true, true] rfl rfl (by kernel_rfl) (by decide) (fun K hK => ?_)
          refine goes_ Tryd.func47 rfl rfl #[.pointer (some ⟨w.heap.size + 1, 0, none⟩), .slice (some ⟨g9, 0, none⟩) 5 5] rfl rfl rfl (by (try simp only [List.map_toArray, List.map_cons, List.map_nil, List.append_toArray, List.append_nil, List.nil_append, List.cons_append]); rfl) ?_
          refine (words_calls w (w.heap.size + 1) (L1 ++ (l2.map ranL).flatten) g9 0 5 [⟨#[101, 110, 100]⟩, (numT a0), (numT a4), (numT a3), (numT a5)] _ HA9.out (made_cells HX9.out) (blk_lt HX9.out) (by simp) (by simp) HLS.out).mono ?_
          rintro e w9 ⟨rfl, hb9, ho9⟩
          refine ⟨_, rfl, ?_⟩
          refine hK.out _ _ ?_
          clear hK K
          refine norm_ (a' := ?_) ?_ ?_
          rotate_left
          · show Act.put _ (some 102) _ = _
            simp only [Act.put, List.setIfInBounds_toArray, List.set_cons_zero, List.set_cons_succ, i64_w, i32_w]
            rfl
          refine done_ (by kernel_rfl) ?_
          have HA1 := Aside0.mk hb9
          have HO1 := Aside0.mk (ho9.blk HO9.out (by omega) (by decide))
          have HM1 := Aside0.mk (HM9.out.oth ho9 (HA9.out.ne_map HM9.out))
          clear hb9 ho9 hHeld
          go_wp2_with (go_at_call 48; refine (shString w (w.heap.size + 1) _ _ HA1.out).mono ?_; rintro e w5 ⟨rfl, hb5, _⟩; have HB5 := Aside0.mk hb5.bel; clear hb5)
          go_ret
          exact ⟨by rw [HL1.out, show showL a0 l1 l2 a3 a4 a5 = (l1.map ansL).flatten ++ ((l2.map ranL).flatten ++ lineL (endP a0 a3 a4 a5)) from List.append_assoc _ _ _]; rfl, HB5.out⟩
end Go.Proofs.YtidgimpdjfmbnaaDoor.Gp
end
