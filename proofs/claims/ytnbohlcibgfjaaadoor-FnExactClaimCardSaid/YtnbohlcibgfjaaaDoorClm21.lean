/- A part of the proof of RowFnExactClaim: each text's theorems that it needs, packed by shake.py, a program of this work; Lean checks them. -/
import Derived.Test.YtnbohlcibgfjaaaDoorClm20
import Derived.OwnWalk
import Derived.Lib.AppendZerosOnto
import Derived.Lib.Overlaps
import Derived.Test.YtnbohlcibgfjaaaDoorClm3
import Derived.Deep.RegionLaw
import Derived.Test.YtnbohlcibgfjaaaDoorClm18
section
namespace Go.Proofs.YtnbohlcibgfjaaaDoor.Gp
open Go.RowKit Go.Proofs.YtnbohlcibgfjaaaDoorW.PrintWords
section
variable {P : Program}
/-- 'copy' at elements of several cells. -/
theorem run_copy_rows (w : World) (dT sT ty elem : TypeId) (sz g o dLen dCap : Nat) (a : Addr) (sLen sCap m : Nat) (cur : Array Value) (t : TypeId) (cs : List Value)
 (hu : P.underlying dT = some (.slice elem)) (hs : (P.info? elem).map (·.size) = some sz)
 (hg : w.heap[g]? = some (.cells cur t (0, 0))) (hm : m = Nat.min sLen dLen) (hn : cs.length = m * sz)
 (hsrc : ∀ j v, cs[j]? = some v → w.cell? (a.add j) = some v) (hfit : o + cs.length ≤ cur.size) (h1 : ∀ v ∈ cs, v.oneCell' = true) :
 (Builtin.copy_ #[dT, sT] ty #[.slice (some ⟨g, o, none⟩) dLen dCap, .slice (some a) sLen sCap]).run P w =
  .ok (goInt m) (w.setRow g (cur.toList.take o ++ cs ++ cur.toList.drop (o + cs.length)).toArray) := by
 have hl := run_loadCells_list (P := P) w a cs hsrc
 have hst := run_storeCells_at P g o t cs 0 cur w hg (by simpa using hfit) h1
 cases hq : P.info? elem with
 | none => simp [hq] at hs
 | some i =>
  have hi : i.size = sz := by simpa [hq] using hs
  simp [Builtin.copy_, run_underlying hu, Builtin.lenOf, Builtin.firstCells, sizeOf, typeInfo, hq, hi, ← hm, ← hn, hl, hst]
/-- 'copy' where its run is known. -/
theorem wp_copy_run (w : World) {o : Oper} {a : Act} {K : Act → World → Prop} {Q : Exit → Act → World → Prop} (d s : Operand) (t t' : TypeId) (ho : o.op = .call { callee := .builtin .copy, args := #[d, s], argTypes := #[t, t'] }) (v u : Value) (hd : a.eval d = v) (hs : a.eval s = u) {v' : Value} {w' : World}
 (hr : (Builtin.copy_ #[t, t'] o.type #[v, u]).run P w = .ok v' w') (h : K (a.put o.dst v') w') : o.wp P a w K Q := by
 unfold Oper.wp execOp
 simp only [ho, resolve, invoke, builtin, Sem.run_bind, Sem.run_pure, Result.andThen_ok, List.map_toArray, List.map_cons, List.map_nil, hd, hs, hr]
 exact h
theorem wpList_copy_run (w : World) {ops : Array Oper} {rest : List Oper} {o : Oper} {a : Act} {Q : Exit → Act → World → Prop} (hgd : o.guard = none) (d s : Operand) (t t' : TypeId) (ho : o.op = .call { callee := .builtin .copy, args := #[d, s], argTypes := #[t, t'] }) (v u : Value) (hd : a.eval d = v) (hs : a.eval s = u) {v' : Value} {w' : World}
 (hr : (Builtin.copy_ #[t, t'] o.type #[v, u]).run P w = .ok v' w') (h : wpList P ops Q rest (a.put o.dst v') w') : wpList P ops Q (o :: rest) a w :=
 wpList_plain hgd fun _ hK => wp_copy_run w d s t t' ho v u hd hs hr (hK _ _ h)
/-- .. and as one step of a region that draws. -/
theorem step_copy_run {ops : Array Oper} {o : Oper} {a : Act} {w : World} {K : Act → World → Prop} {Q : Exit → Act → World → Prop} {E : Prop} (hg : o.guard = none) (d x : Operand) (dT sT : TypeId) (hop : o.op = Op.call { callee := Callee.builtin Builtin.copy, args := #[d, x], argTypes := #[dT, sT] })
 (v u : Value) (hd : a.eval d = v) (hx : a.eval x = u) {v' : Value} {w' : World} (hr : (Builtin.copy_ #[dT, sT] o.type #[v, u]).run P w = .ok v' w') (hK : K (a.put o.dst v') w') :
 if Region.wanted o (yielded ops a.tmps) = true then Oper.wp P o a w K Q else E := by
 have hw : Region.wanted o (yielded ops a.tmps) = true := by simp [Region.wanted, hg]
 rw [if_pos hw]
 unfold Oper.wp
 simp [execOp, hop, resolve, invoke, builtin, hd, hx, hr, Result.andThen]
 exact hK
theorem cells_of {w : World} {b o : Nat} {cur : Array Value} {t : TypeId} {fr : Nat × Nat} {X cs Y : List Value} (h : w.heap[b]? = some (.cells cur t fr)) (hc : cur.toList = X ++ (cs ++ Y)) (ho : X.length = o) :
 ∀ j u, cs[j]? = some u → w.cell? ((⟨b, o, none⟩ : Addr).add j) = some u := by
 intro j u hu
 have hl : j < cs.length := (List.getElem?_eq_some_iff.1 hu).1
 have h2 : cur[o + j]? = some u := by
  rw [← Array.getElem?_toList, hc, List.getElem?_append_right (by omega), ho, Nat.add_sub_cancel_left, List.getElem?_append_left hl]
  exact hu
 rw [Addr.add_lit]
 simp only [World.cell?, h]
 exact h2
/-- 'copy' into a block whose cells are known: X, then Y; the elements land behind X. -/
theorem copy_seg (w : World) (dT sT elem : TypeId) (sz g o dLen : Nat) (a : Addr) (sLen m : Nat) (t : TypeId) (X Y cs : List Value)
 (hu : P.underlying dT = some (.slice elem)) (hs : (P.info? elem).map (·.size) = some sz)
 (hg : w.heap[g]? = some (.cells (X ++ Y).toArray t (0, 0))) (hX : X.length = o) (hm : m = Nat.min sLen dLen) (hn : cs.length = m * sz) (hY : cs.length ≤ Y.length)
 (hsrc : ∀ j v, cs[j]? = some v → w.cell? (a.add j) = some v) (h1 : ∀ v ∈ cs, v.oneCell' = true) :
 ∃ W : World, (∀ ty dc sc, (Builtin.copy_ #[dT, sT] ty #[.slice (some ⟨g, o, none⟩) dLen dc, .slice (some a) sLen sc]).run P w = .ok (goInt m) W) ∧
  W.heap[g]? = some (.cells (X ++ cs ++ Y.drop cs.length).toArray t (0, 0)) ∧ w.grownBy W (some g) := by
 have e : (X ++ Y).toArray.toList.take o ++ cs ++ (X ++ Y).toArray.toList.drop (o + cs.length) = X ++ cs ++ Y.drop cs.length := by
  rw [← hX]
  simp only [List.take_left', List.drop_append, List.drop_eq_nil_of_le (Nat.le_add_right X.length cs.length), Nat.add_sub_cancel_left, List.nil_append]
 refine ⟨w.setRow g (X ++ cs ++ Y.drop cs.length).toArray, fun ty dc sc => ?_, setRow_heap w g _ _ t _ hg, ⟨rfl, rfl, rfl, by simp [World.setRow], fun k _ hk => setRow_other w g k _ (fun e => hk (by rw [e]))⟩⟩
 have h := run_copy_rows (P := P) w dT sT ty elem sz g o dLen dc a sLen sc m _ t cs hu hs hg hm hn hsrc (by simp; omega) h1
 rw [e] at h
 exact h
theorem own_mk {w : World} {base g n cap sz : Nat} {e : TypeId} {Xs Z : List Value} (hg : w.heap[g]? = some (.cells (Xs ++ Z).toArray e (0, 0))) (hb : base ≤ g) (hn : n ≤ cap) (hc : cap ≤ maxLen) (hx : Xs.length = n * sz) (hz : (Xs ++ Z).length = cap * sz) :
 w.ownsRow base e sz (.slice (some ⟨g, 0, none⟩) n cap) n Xs :=
 ⟨hx, .inr ⟨g, cap, _, rfl, hb, hg, hn, hc, by simpa using hz, by rw [← hx]; simp⟩⟩
/-- The road without room: append(s[:i], make(..)...), copy, copy. -/
theorem ins_grow (w : World) (t tn e : TypeId) (i0 : TypeInfo) (z : Value) (sz bytes base g n c i b tB : Nat) (frB : Nat × Nat) (A B vs : List Value) (cur : Array Value)
 (ht : P.underlying t = some (.slice e)) (htn : P.underlying tn = some (.int .i64)) (hi : P.info? e = some i0) (hz : i0.zero = some z) (hsz : i0.size = sz) (hby : i0.bytes = bytes) (hzs : z.cells.size = sz) (hs0 : 0 < sz)
 (hg : w.heap[g]? = some (.cells cur e (0, 0))) (_ : base ≤ g) (hcur : cur.toList = A ++ B) (hA : A.length = i * sz) (hB : B.length = (n - i) * sz) (hin : i < n) (hcn : c = n) (hv : vs.length = sz) (h1v : ∀ u ∈ vs, u.oneCell' = true) (h1B : ∀ u ∈ B, u.oneCell' = true)
 (hb : w.heap[b]? = some (.cells vs.toArray tB frB)) (hbig : (n + 1) * bytes ≤ 140737488355328) (hn63 : n + 1 ≤ maxLen) (hbase : base ≤ w.heap.size) :
 ∃ (G : Nat) (W1 W2 W3 : World), n + 1 ≤ G ∧ G ≤ 9223372036854775807 ∧
  (∀ ty, (Builtin.append_ #[t, tn] ty #[.slice (some ⟨g, 0, none⟩) i c, .int .i64 ((n + 1 - i : Nat) : Int)]).run P w = .ok (.slice (some ⟨w.heap.size, 0, none⟩) (n + 1) G) W1) ∧
  (∀ ty dc sc, (Builtin.copy_ #[t, t] ty #[.slice (some ⟨w.heap.size, i * sz, none⟩) (n + 1 - i) dc, .slice (some ⟨b, 0, none⟩) 1 sc]).run P W1 = .ok (goInt 1) W2) ∧
  (∀ ty dc sc, (Builtin.copy_ #[t, t] ty #[.slice (some ⟨w.heap.size, (i + 1) * sz, none⟩) (n + 1 - (i + 1)) dc, .slice (some ⟨g, i * sz, none⟩) (n - i) sc]).run P W2.drew = .ok (goInt ((n - i : Nat) : Int)) W3) ∧
  W3.ownsRow base e sz (.slice (some ⟨w.heap.size, 0, none⟩) (n + 1) G) (n + 1) (A ++ vs ++ B) ∧ Below w.heap.size w W3 := by
 have hgl := blk_lt hg
 have hbl := blk_lt hb
 have hszl : (P.info? e).map (·.size) = some sz := by rw [hi]; simp [hsz]
 have hiz : i * sz + (n - i) * sz = n * sz := by rw [← Nat.add_mul]; congr 1; omega
 have hold : (Builtin.firstCells i0.size i (.slice (some ⟨g, 0, none⟩) i c)).run P w.drew = .ok A.toArray w.drew := by
  rw [hsz]
  exact run_firstCells_some w.drew sz i ⟨g, 0, none⟩ i c A hA (cells_of (X := []) (w := w.drew) hg hcur rfl)
 have hik : i + (n + 1 - i) = n + 1 := by omega
 obtain ⟨G, hG⟩ : ∃ G, G = grownCap w (n + 1) c e := ⟨_, rfl⟩
 have hGn : n + 1 ≤ G := by rw [hG]; exact grownCap_ge w _ _ _
 have hGm : G ≤ maxLen := by rw [hG]; exact grownCap_le_maxLen w (n + 1) c e hn63
 obtain ⟨Z, hZ⟩ : ∃ Z, Z = (Builtin.zeroCells z.cells (n + 1 - i) ++ Builtin.zeroCells z.cells (G - (n + 1))).toList := ⟨_, rfl⟩
 have hZl : Z.length = (G - i) * sz := by
  rw [hZ]
  simp only [Array.toList_append, List.length_append, Array.length_toList, size_zeroCells, hzs, ← Nat.add_mul]
  congr 1
  omega
 have e1 : A.toArray ++ Builtin.zeroCells z.cells (n + 1 - i) ++ Builtin.zeroCells z.cells (G - (n + 1)) = (A ++ Z).toArray := by
  rw [hZ]
  apply Array.toList_inj.1
  simp
 obtain ⟨W1, hW1⟩ : ∃ W1, W1 = w.drew.alloc (.cells (A ++ Z).toArray e) := ⟨_, rfl⟩
 have hb1 : Below w.heap.size w W1 := by rw [hW1]; exact below_alloc (below_drew (Below.refl _ _)) _
 have hN1 : W1.heap[w.heap.size]? = some (.cells (A ++ Z).toArray e (0, 0)) := by rw [hW1]; exact blk_new w.drew _
 have hs1 : W1.heap.size = w.heap.size + 1 := by rw [hW1]; exact Array.size_push _
 have hvZ : vs.length ≤ Z.length := by
  rw [hv, hZl]
  exact Nat.le_mul_of_pos_left _ (by omega)
 obtain ⟨W2, hr2, hN2, hg2⟩ := copy_seg (P := P) W1 t t e sz w.heap.size (i * sz) (n + 1 - i) ⟨b, 0, none⟩ 1 1 e A Z vs ht hszl hN1 hA (by simp only [Nat.min_def]; split <;> omega) (by omega) hvZ
  (cells_of (X := []) (Y := []) (blk_below hb hb1) (by simp) rfl) h1v
 have hb2 : Below w.heap.size w W2 := ⟨hg2.os.trans hb1.os, hg2.tape.trans hb1.tape, hg2.output.trans hb1.output, Nat.le_trans hb1.size hg2.size, fun k hk => (hg2.block k (by omega) (by intro h; injection h; omega)).trans (hb1.block k hk)⟩
 have hBZ : B.length ≤ (Z.drop vs.length).length := by
  rw [List.length_drop, hB, hv, hZl, ← Nat.sub_one_mul]
  exact Nat.mul_le_mul_right _ (by omega)
 obtain ⟨W3, hr3, hN3, hg3⟩ := copy_seg (P := P) W2.drew t t e sz w.heap.size ((i + 1) * sz) (n + 1 - (i + 1)) ⟨g, i * sz, none⟩ (n - i) (n - i) e (A ++ vs) (Z.drop vs.length) B ht hszl hN2 (by rw [List.length_append, hA, hv, Nat.succ_mul]) (by simp only [Nat.min_def]; split <;> omega) hB hBZ
  (cells_of (w := W2.drew) (X := A) (Y := []) (blk_below hg (below_drew hb2)) (by rw [hcur, List.append_nil]) hA) h1B
 have hb3 : Below w.heap.size w W3 := ⟨hg3.os.trans hb2.os, hg3.tape.trans hb2.tape, hg3.output.trans hb2.output, Nat.le_trans hb2.size hg3.size, fun k hk => (hg3.block k (Nat.lt_of_lt_of_le hk hb2.size) (by intro h; injection h; omega)).trans (hb2.block k hk)⟩
 refine ⟨G, W1, W2, W3, hGn, by unfold maxLen at hGm; omega, fun ty => ?_, hr2, hr3, ?_, hb3⟩
 · have h := Lib.run_append_grow_zeros w t tn ty e i0 z .i64 .i64 ht htn hi hz (some ⟨g, 0, none⟩) i c A hold (n + 1 - i) (by omega) (by omega) (by omega) (by unfold maxLen at hn63; omega) (by rw [hby]; exact Nat.le_trans (Nat.mul_le_mul_right _ (show n + 1 - i ≤ n + 1 by omega)) (by omega)) (by rw [hby, hik]; exact growslice_fits (by omega) hbig)
   rw [hik, ← hG, e1, ← hW1] at h
   exact h
 refine own_mk (Z := (Z.drop vs.length).drop B.length) hN3 hbase hGn hGm ?_ ?_
 · rw [List.length_append, List.length_append, hA, hv, hB, Nat.succ_mul]
   omega
 rw [List.length_append, List.length_append, List.length_append, List.length_drop, List.length_drop, hA, hv, hB, hZl]
 have h1 : i * sz + (G - i) * sz = G * sz := by rw [← Nat.add_mul]; congr 1; omega
 rw [List.length_drop, hB, hv, hZl] at hBZ
 rw [hv, hZl] at hvZ
 omega
/-- The road with room: the tail is moved up by one, then the element is put in its place. -/
theorem ins_room (w : World) (t e : TypeId) (sz base g n c i b tB : Nat) (frB : Nat × Nat) (A B S vs : List Value) (cur : Array Value)
 (ht : P.underlying t = some (.slice e)) (hszl : (P.info? e).map (·.size) = some sz)
 (hg : w.heap[g]? = some (.cells cur e (0, 0))) (hbg : base ≤ g) (hcur : cur.toList = A ++ (B ++ S)) (hA : A.length = i * sz) (hB : B.length = (n - i) * sz) (hS : S.length = (c - n) * sz) (hin : i < n) (hcn : n + 1 ≤ c) (hcm : c ≤ maxLen) (hv : vs.length = sz) (h1v : ∀ u ∈ vs, u.oneCell' = true) (h1B : ∀ u ∈ B, u.oneCell' = true)
 (hb : w.heap[b]? = some (.cells vs.toArray tB frB)) (hbg2 : b ≠ g) :
 ∃ W1 W2 : World,
  (∀ ty dc sc, (Builtin.copy_ #[t, t] ty #[.slice (some ⟨g, (i + 1) * sz, none⟩) (n + 1 - (i + 1)) dc, .slice (some ⟨g, i * sz, none⟩) (n + 1 - i) sc]).run P w.drew = .ok (goInt ((n - i : Nat) : Int)) W1) ∧
  (∀ ty dc sc, (Builtin.copy_ #[t, t] ty #[.slice (some ⟨g, i * sz, none⟩) (n + 1 - i) dc, .slice (some ⟨b, 0, none⟩) 1 sc]).run P W1 = .ok (goInt 1) W2) ∧
  W2.ownsRow base e sz (.slice (some ⟨g, 0, none⟩) (n + 1) c) (n + 1) (A ++ vs ++ B) ∧ w.grownBy W2 (some g) := by
 have hgl := blk_lt hg
 have hbl := blk_lt hb
 obtain ⟨Y, hY⟩ : ∃ Y, Y = (B ++ S).drop sz := ⟨_, rfl⟩
 obtain ⟨X, hX⟩ : ∃ X, X = (B ++ S).take sz := ⟨_, rfl⟩
 have hXY : B ++ S = X ++ Y := by rw [hX, hY, List.take_append_drop]
 have hBS : (B ++ S).length = (c - i) * sz := by
  rw [List.length_append, hB, hS, ← Nat.add_mul]
  congr 1
  omega
 have hXl : X.length = sz := by
  rw [hX, List.length_take, hBS, Nat.min_eq_left]
  exact Nat.le_mul_of_pos_left _ (by omega)
 have hYl : Y.length = (c - i - 1) * sz := by
  rw [hY, List.length_drop, hBS, Nat.sub_one_mul]
 have hec : cur = ((A ++ X) ++ Y).toArray := by
  apply Array.toList_inj.1
  rw [hcur, hXY]
  simp
 have hBY : B.length ≤ Y.length := by rw [hB, hYl]; exact Nat.mul_le_mul_right _ (by omega)
 rw [hec] at hg
 obtain ⟨W1, hr1, hN1, hg1⟩ := copy_seg (P := P) w.drew t t e sz g ((i + 1) * sz) (n + 1 - (i + 1)) ⟨g, i * sz, none⟩ (n + 1 - i) (n - i) e (A ++ X) Y B ht hszl hg (by rw [List.length_append, hA, hXl, Nat.succ_mul]) (by simp only [Nat.min_def]; split <;> omega) hB hBY
  (cells_of (w := w.drew) (X := A) (Y := S) hg (by rw [← hec, hcur]) hA) h1B
 obtain ⟨Y2, hY2⟩ : ∃ Y2, Y2 = Y.drop B.length := ⟨_, rfl⟩
 rw [← hY2, show A ++ X ++ B ++ Y2 = A ++ (X ++ (B ++ Y2)) by simp] at hN1
 obtain ⟨W2, hr2, hN2, hg2⟩ := copy_seg (P := P) W1 t t e sz g (i * sz) (n + 1 - i) ⟨b, 0, none⟩ 1 1 e A (X ++ (B ++ Y2)) vs ht hszl hN1 hA (by simp only [Nat.min_def]; split <;> omega) (by omega) (by rw [List.length_append]; omega)
  (cells_of (X := []) (Y := []) (show W1.heap[b]? = _ from (hg1.block b hbl (by intro h; injection h; omega)).trans hb) (by simp) rfl) h1v
 have e3 : (X ++ (B ++ Y2)).drop vs.length = B ++ Y2 := by rw [hv, ← hXl, List.drop_left]
 rw [e3, show A ++ vs ++ (B ++ Y2) = (A ++ vs ++ B) ++ Y2 by simp] at hN2
 refine ⟨W1, W2, hr1, hr2, own_mk hN2 hbg hcn hcm ?_ ?_, ?_⟩
 · rw [List.length_append, List.length_append, hA, hv, hB, Nat.succ_mul]
   have : i * sz + (n - i) * sz = n * sz := by rw [← Nat.add_mul]; congr 1; omega
   omega
 · rw [List.length_append, List.length_append, List.length_append, hY2, List.length_drop, hA, hv, hB, hYl]
   rw [hB, hYl] at hBY
   have h1 : i * sz + (c - i - 1) * sz + sz = c * sz := by rw [← Nat.add_mul, ← Nat.succ_mul]; congr 1; omega
   omega
 have h0 : w.grownBy w.drew (some g) := ⟨rfl, rfl, rfl, Nat.le_refl _, fun _ _ _ => rfl⟩
 exact (h0.trans hg1).trans hg2
theorem flat_of {sz : Nat} : ∀ (rows : List (List Value)) (inner : List Value), inner.length = rows.length * sz → (∀ j c, rows[j]? = some c → (inner.drop (j * sz)).take sz = c) → inner = rows.flatten
 | [], inner, hl, _ => by
  rw [List.length_nil, Nat.zero_mul] at hl
  rw [List.eq_nil_of_length_eq_zero hl, List.flatten_nil]
 | r :: rows, inner, hl, h => by
  have h0 : inner.take sz = r := by
   have := h 0 r rfl
   rwa [Nat.zero_mul, List.drop_zero] at this
  have ih := flat_of rows (inner.drop sz) (by rw [List.length_drop, hl, List.length_cons, Nat.succ_mul]; exact Nat.add_sub_cancel _ _) (fun j c hj => by
   have := h (j + 1) c hj
   rw [List.drop_drop, Nat.add_comm, ← Nat.succ_mul]
   exact this)
  rw [List.flatten_cons, ← h0, ← ih, List.take_append_drop]
theorem flat_len {sz : Nat} : ∀ (rows : List (List Value)), (∀ r ∈ rows, r.length = sz) → rows.flatten.length = rows.length * sz
 | [], _ => by rw [List.flatten_nil, List.length_nil, List.length_nil, Nat.zero_mul]
 | r :: rows, h => by rw [List.flatten_cons, List.length_append, List.length_cons, flat_len rows (fun q hq => h q (List.mem_cons_of_mem _ hq)), h r List.mem_cons_self, Nat.succ_mul, Nat.add_comm]
theorem flat_piece {sz : Nat} : ∀ (rows : List (List Value)) (_ : ∀ r ∈ rows, r.length = sz) (j : Nat) (c : List Value), rows[j]? = some c → (rows.flatten.drop (j * sz)).take sz = c
 | [], _, j, c, hj => by cases hj
 | r :: rows, h, 0, c, hj => by
  injection hj with hj
  subst hj
  rw [Nat.zero_mul, List.drop_zero, List.flatten_cons, ← h r List.mem_cons_self, List.take_left]
 | r :: rows, h, j + 1, c, hj => by
  have e : (j + 1) * sz = r.length + j * sz := by rw [Nat.succ_mul, h r List.mem_cons_self, Nat.add_comm]
  rw [e, List.flatten_cons, List.drop_append, List.drop_eq_nil_of_le (Nat.le_add_right _ _), List.nil_append, Nat.add_sub_cancel_left]
  exact flat_piece rows (fun q hq => h q (List.mem_cons_of_mem _ hq)) j c hj
theorem raw_flat {sz e : Nat} {w : World} {base : Nat} {ok : Nat → Prop} {v : Value} {rows : List (List Value)} (h : (Kd.raw sz).R e w base ok v rows) : w.ownsRow base e sz v rows.length rows.flatten ∧ (∀ r ∈ rows, r.length = sz) ∧ ∀ r ∈ rows, ∀ u ∈ r, u.oneCell' = true := by
 obtain ⟨_, inner, ho, hl, hp⟩ := h
 have e : inner = rows.flatten := flat_of rows inner hl (fun j c hj => (hp j c hj).1)
 rw [← e]
 refine ⟨ho, fun r hr => ?_, fun r hr => ?_⟩
 · obtain ⟨j, hj⟩ := List.getElem?_of_mem hr
   obtain ⟨p1, p2, _⟩ := hp j r hj
   rw [← p1]
   exact p2
 obtain ⟨j, hj⟩ := List.getElem?_of_mem hr
 obtain ⟨p1, _, p3⟩ := hp j r hj
 rw [← p1]
 exact p3
theorem flat_raw {sz e : Nat} {w : World} {base : Nat} {ok : Nat → Prop} {v : Value} {rows : List (List Value)} (ho : w.ownsRow base e sz v rows.length rows.flatten) (hl : ∀ r ∈ rows, r.length = sz) (h1 : ∀ r ∈ rows, ∀ u ∈ r, u.oneCell' = true) (hv : ∀ k, v.ownBlock = some k → ok k) : (Kd.raw sz).R e w base ok v rows :=
 ⟨hv, _, ho, flat_len rows hl, fun j c hj => by
  have e := flat_piece rows hl j c hj
  have h2 := hl c (List.mem_of_getElem? hj)
  have h3 := h1 c (List.mem_of_getElem? hj)
  rw [← e] at h2 h3
  exact ⟨e, h2, h3⟩⟩
theorem flat_split {rows : List (List Value)} (i : Nat) (vs : List Value) : (rows.take i ++ vs :: rows.drop i).flatten = (rows.take i).flatten ++ vs ++ (rows.drop i).flatten := by
 rw [List.flatten_append, List.flatten_cons, List.append_assoc]
theorem mid_map {α β : Type} (f : α → β) (l : List α) (i : Nat) (z : α) : (l.take i ++ z :: l.drop i).map f = (l.map f).take i ++ f z :: (l.map f).drop i := by
 rw [List.map_append, List.map_cons, List.map_take, List.map_drop]
theorem mid_mem {α : Type} {l : List α} {i : Nat} {z y : α} (h : y ∈ l.take i ++ z :: l.drop i) : y = z ∨ y ∈ l := by
 rw [List.mem_append, List.mem_cons] at h
 rcases h with h | h | h
 · exact .inr (List.mem_of_mem_take h)
 · exact .inl h
 exact .inr (List.mem_of_mem_drop h)
/-- An element without blocks of its own, put among others. -/
theorem Ov.mid {α : Type} {d : Kd α} {w : World} {base : Nat} {ok : Nat → Prop} {zs : List (α × List Value × (Nat → Prop))} (h : Ov d w base ok zs) (i : Nat) {x : α} {vs : List Value} (hM : d.M w base (fun _ => False) x vs) : Ov d w base ok (zs.take i ++ (x, vs, fun _ => False) :: zs.drop i) := by
 have hp : ((zs.take i) ++ (zs.drop i)).Pairwise (fun a b => ∀ k, a.2.2 k → ¬ b.2.2 k) := by rw [List.take_append_drop]; exact h.apart
 obtain ⟨p1, p2, p3⟩ := List.pairwise_append.1 hp
 refine ⟨fun z hz => ?_, fun z hz => ?_, ?_⟩
 · rcases mid_mem hz with rfl | hz
   · exact hM
   exact h.M z hz
 · rcases mid_mem hz with rfl | hz
   · exact fun _ hk => hk.elim
   exact h.ok z hz
 refine List.pairwise_append.2 ⟨p1, List.pairwise_cons.2 ⟨fun _ _ _ hk => hk.elim, p2⟩, fun a ha b hb => ?_⟩
 rcases List.mem_cons.1 hb with rfl | hb
 · exact fun _ _ hk => hk
 exact p3 a ha b hb
/-- What was put between cells is a row with its element between the others. -/
theorem S_insert {α : Type} {d : Kd α} {e n : Nat} {w w' : World} {base : Nat} {v v' : Value} {xs : List α} {zs : List (α × List Value × (Nat → Prop))} (hz : zs.map (·.1) = xs) (hO : Ov d w base (fun k => (True ∧ some k ≠ v.ownBlock) ∧ base ≤ k ∧ k < w.heap.size) zs) (hR : (Kd.raw d.sz).R e w base (fun k => some k = v.ownBlock) v (zs.map (·.2.1))) (i : Nat) {x : α} {vs : List Value} (hM : d.M w' base (fun _ => False) x vs) (hl : vs.length = d.sz) (h1 : ∀ u ∈ vs, u.oneCell' = true)
 (hn : n = zs.length) (ho : w'.ownsRow base e d.sz v' (n + 1) (((zs.map (·.2.1)).take i).flatten ++ vs ++ ((zs.map (·.2.1)).drop i).flatten)) (hg : w.grownBy w' v.ownBlock) (hv : v'.ownBlock = v.ownBlock ∨ v'.ownBlock = some w.heap.size) :
 Kd.S d e w' base (fun _ => True) v' (xs.take i ++ x :: xs.drop i) := by
 obtain ⟨_, hlr, h1r⟩ := raw_flat hR
 have hO2 := (hO.step (w1 := w') (fun k hk hl => hg.block k hl (fun e => hk.1.2 e))).mid i hM
 have hlen : (zs.take i ++ (x, vs, fun _ => False) :: zs.drop i).length = n + 1 := by
  rw [List.length_append, List.length_cons, List.length_take, List.length_drop, hn, Nat.min_def]
  split <;> omega
 have hR2 : (Kd.raw d.sz).R e w' base (fun _ => True) v' ((zs.take i ++ (x, vs, fun _ => False) :: zs.drop i).map (·.2.1)) := by
  refine flat_raw ?_ ?_ ?_ (fun _ _ => trivial)
  · rw [List.length_map, hlen, mid_map, flat_split]
    exact ho
  · intro r hr
    rw [mid_map] at hr
    rcases mid_mem hr with rfl | hr
    · exact hl
    exact hlr r hr
  intro r hr
  rw [mid_map] at hr
  rcases mid_mem hr with rfl | hr
  · exact h1
  exact h1r r hr
 have hS := S_close (ok := fun _ => True) hO2 hR2 (fun k hk => ⟨trivial, fun e => ?_⟩) (fun _ _ => trivial)
 · rw [mid_map, hz] at hS
   exact hS
 rcases hv with hv | hv
 · exact hk.1.2 (e.trans hv)
 rw [hv] at e
 injection e with e
 have := hk.2.2
 omega
end
end Go.Proofs.YtnbohlcibgfjaaaDoor.Gp
end
section
namespace Go.Proofs.YtnbohlcibgfjaaaDoor.Gp
open Go.RowKit Go.Proofs.YtnbohlcibgfjaaaDoorW.PrintWords Go.Proofs.YtnbohlcibgfjaaaDoorW.PrintLast Go.Proofs.YtnbohlcibgfjaaaDoorW.PrintMore
set_option linter.unusedVariables false
set_option linter.unusedSimpArgs false
def zRw : Value := .agg #[.int .i64 0, .string ⟨#[]⟩, .int .i64 0, .int .i64 0, .bool false, .string ⟨#[]⟩, .slice none 0 0, .int .i64 0, .int .i64 0]
theorem slices_Insert_impl_row_impl_row.info : (Tryd.prog.info? 101).map (fun i => (i.zero, i.size, i.bytes)) = some (some zRw, 9, 104) := by kernel_rfl
theorem slices_Insert_impl_row_impl_row.size (w : World) : (Go.sizeOf 101).run Tryd.prog w = .ok 9 w := by kernel_rfl
theorem slices_Insert_impl_row_impl_row.over (w : World) (b g n1 c1 n2 c2 o tA tB : Nat) (cA cB : Array Value) (hA : w.heap[b]? = some (.cells cA tA (0, 0))) (hB : w.heap[g]? = some (.cells cB tB (0, 0))) (hne : b ≠ g) (hc : cB.size ≠ 0) :
 (callFunc 171 #[.slice (some ⟨b, 0, none⟩) n1 c1, .slice (some ⟨g, o, none⟩) n2 c2]).run Tryd.prog w = .ok (.value (.bool false)) w := by
 rw [run_callFunc_extern Tryd.func171 (by kernel_rfl) (by kernel_rfl) (by kernel_rfl) (e := Extern.SlicesOverlaps.overlaps #[91, 91] #[4]) (by kernel_rfl),
  Lib.run_overlaps_apart w 91 4 101 Tryd.underlying91 9 (slices_Insert_impl_row_impl_row.size) ⟨b, 0, none⟩ ⟨g, o, none⟩ n1 c1 n2 c2 hne tA tB cA.size cB.size (by simp [World.shape?, hA]) (by simp [World.shape?, hB]) hc (by simp [World.frozen?, hA]) (by simp [World.frozen?, hA])]
 rfl
theorem wrapP (i : Nat) (h : i < 9223372036854775807) : IntKind.i64.wrap ((i : Int) + 1) = ((i + 1 : Nat) : Int) := by rw [IntKind.wrap_i64]; omega
set_option maxHeartbeats 16000000 in
set_option maxRecDepth 100000 in
theorem slices_Insert_impl_row_impl_row.last (Ad : Option Addr) (n c b tB base : Nat) (A vs : List Value) (w : World) (ho : w.ownsRow base 101 9 (.slice Ad n c) n A) (hv : vs.length = 9) (h1v : ∀ u ∈ vs, u.oneCell' = true)
 (hb : w.heap[b]? = some (.cells vs.toArray tB (0, 0))) (hbig : n < 4294967296) (hbase : base ≤ w.heap.size) :
 Calls Tryd.prog 157 #[.slice Ad n c, .int .i64 n, .slice (some ⟨b, 0, none⟩) 1 1] w fun e w' => ∃ v : Value, e = .returned v ∧ w'.ownsRow base 101 9 v (n + 1) (A ++ vs) ∧ w.grownBy w' (Value.slice Ad n c).ownBlock ∧ (v.ownBlock = (Value.slice Ad n c).ownBlock ∨ v.ownBlock = some w.heap.size) := by
 have hu2 := Tryd.underlying91
 obtain ⟨i0, hi0, hz0, hzs, hzb⟩ := info_parts slices_Insert_impl_row_impl_row.info
 obtain ⟨v', w', hr, h2, h3, _, h5⟩ := run_append_own_at (P := Tryd.prog) w base 91 91 101 i0 zRw 9 104 hu2 hi0 hz0 hzs hzb rfl (by decide) (.slice Ad n c) n A ho ⟨b, 0, none⟩ 1 1 vs (by rw [hv]) (cells_of (X := []) (Y := []) hb (by simp) rfl) h1v (by unfold maxLen; omega) (by omega) hbase
 have H := Aside0.mk (And.intro h2 (And.intro h3 h5))
 clear h2 h3 h5 hb h1v hv hi0 hz0 hzs hzb
 have hnn : n ≤ 9223372036854775807 := by omega
 have hn0 : (0 : Int) ≤ (n : Int) := by omega
 rcases ho.2 with ⟨hv, hn⟩ | ⟨g, cap, cur, hv, _, _, hnc, hcm, _⟩
 ·
  injection hv with h1 h2 h3
  subst h1 h2 h3
  clear ho
  go_enter Tryd.func157, Tryd.ntmps157
  go_wp2_with (at_builtin; refine Lib.wpList_append_run _ rfl _ _ _ _ rfl _ _ rfl rfl _ _ hr ?_)
  go_ret
  exact ⟨_, rfl, H.out⟩
 injection hv with h1 h2 h3
 subst h1 h3
 obtain ⟨ad, had⟩ : ∃ ad : Addr, ad = ⟨g, 0, none⟩ := ⟨_, rfl⟩
 rw [← had] at hr H ⊢
 clear ho had h2
 have hnc2 : (n : Int) ≤ (c : Int) := by omega
 go_enter Tryd.func157, Tryd.ntmps157
 go_wp2_with (at_builtin; refine Lib.wpList_append_run _ rfl _ _ _ _ rfl _ _ rfl rfl _ _ hr ?_)
 all_goals (go_ret; exact ⟨_, rfl, H.out⟩)
set_option maxHeartbeats 16000000 in
set_option maxRecDepth 100000 in
theorem slices_Insert_impl_row_impl_row.mid (Ad : Option Addr) (n c i b tB base : Nat) (A B vs : List Value) (w : World) (ho : w.ownsRow base 101 9 (.slice Ad n c) n (A ++ B)) (hA : A.length = i * 9) (hin : i < n) (hv : vs.length = 9) (h1v : ∀ u ∈ vs, u.oneCell' = true) (h1B : ∀ u ∈ B, u.oneCell' = true)
 (hb : w.heap[b]? = some (.cells vs.toArray tB (0, 0))) (hbo : (Value.slice Ad n c).ownBlock ≠ some b) (hbig : n < 4294967296) (hbase : base ≤ w.heap.size) :
 Calls Tryd.prog 157 #[.slice Ad n c, .int .i64 i, .slice (some ⟨b, 0, none⟩) 1 1] w fun e w' => ∃ v : Value, e = .returned v ∧ w'.ownsRow base 101 9 v (n + 1) (A ++ vs ++ B) ∧ w.grownBy w' (Value.slice Ad n c).ownBlock ∧ (v.ownBlock = (Value.slice Ad n c).ownBlock ∨ v.ownBlock = some w.heap.size) := by
 have hu2 := Tryd.underlying91
 obtain ⟨i0, hi0, hz0, hzs, hzb⟩ := info_parts slices_Insert_impl_row_impl_row.info
 rcases ho.2 with ⟨_, hn⟩ | ⟨g, cap, cur, hvv, hbg, hg, hnc, hcm, hcs, htk⟩
 · omega
 injection hvv with h1 h2 h3
 subst h1 h3
 have hbg2 : b ≠ g := fun e => hbo (by rw [e]; rfl)
 have hAB := ho.1
 rw [List.length_append, hA] at hAB
 have hB : B.length = (n - i) * 9 := by omega
 have hsz9 : (Tryd.prog.info? 101).map (·.size) = some 9 := by rw [hi0]; simp [hzs]
 have hov := fun n2 c2 => slices_Insert_impl_row_impl_row.over w b g 1 1 n2 c2 ((i + 1) * 9) tB 101 _ _ hb hg hbg2 (by omega)
 obtain ⟨ad, had⟩ : ∃ ad : Addr, ad = ⟨g, 0, none⟩ := ⟨_, rfl⟩
 have mixed : Tryd.prog.follows .mixedOrders = true := by kernel_rfl
 have hn63 : n < 9223372036854775807 := Nat.lt_trans hbig (by decide)
 have hi63 : i < 9223372036854775807 := Nat.lt_trans hin hn63
 have e0 : ((i : Int) == (n : Int)) = false := beq_eq_false_iff_ne.2 (by omega)
 have p0 : (0 : Int) ≤ (i : Int) := by omega
 have p1 : (i : Int) ≤ (n : Int) := by omega
 have p2 : (0 : Int) ≤ (i : Int) + 1 := by omega
 have p4 : (i : Int) ≤ (n : Int) + 1 := by omega
 have p5 : (0 : Int) ≤ (n : Int) + 1 := by omega
 have p8 : ((i : Int) + 1).toNat = i + 1 := by omega
 have c1 : ¬ c = i := by omega
 have p6 : (i : Int) ≤ (c : Int) := by omega
 by_cases hroom : n + 1 ≤ c
 ·
  have q1 : ¬ ((c : Int) < (n : Int) + 1) := by omega
  have q2 : (n : Int) + 1 ≤ (c : Int) := by omega
  have q3 : ¬ c = i + 1 := by omega
  have q4 : ((n : Int) + 1).toNat = n + 1 := by omega
  obtain ⟨W1, W2, hr1, hr2, hown, hgr⟩ := ins_room (P := Tryd.prog) w 91 101 9 base g n c i b tB (0, 0) A B (cur.toList.drop (n * 9)) vs cur hu2 hsz9 hg hbg (by rw [← List.append_assoc, ← htk, List.take_append_drop]) hA hB (by rw [List.length_drop, Array.length_toList, hcs, ← Nat.sub_mul]) hin hroom hcm hv h1v h1B hb hbg2
  have H := Aside0.mk (And.intro hown hgr)
  have e6 : ∀ m, (⟨g, m, none⟩ : Addr) = ad.add m := fun m => by rw [had, addr_at]
  rw [e6] at hr1 hr2 hov
  rw [e6] at hr1
  have p9 : IntKind.i64.wrap ((i : Int) + 1) = (i : Int) + 1 := (wrapP i hi63).trans (by push_cast; rfl)
  rw [← had] at H ⊢
  clear e6 hown hgr hi0 hz0 hzs hzb hv h1v h1B hb hbo hg hcs htk hA hB hAB hsz9 ho hcm
  have HAD := Aside0.mk had
  clear had
  go_enter Tryd.func157, Tryd.ntmps157
  go_wp2_with (simp only [hov])
  go_region_law (refine step_copy_run rfl _ _ 91 91 rfl (.slice (some (ad.add ((i + 1) * 9))) (n + 1 - (i + 1)) (c - (i + 1))) (.slice (some (ad.add (i * 9))) (n + 1 - i) (c - i)) (by simp [Act.eval, Act.put]) (by simp [Act.eval, Act.put]) (hr1 _ _ _) ?_)
  go_wp2_with (at_builtin; refine wpList_copy_run _ rfl _ _ _ _ rfl _ _ rfl rfl (hr2 _ _ _) ?_)
  go_ret
  exact ⟨_, rfl, H.out.1, by rw [HAD.out]; exact H.out.2, .inl rfl⟩
 have hcn : n = c := by omega
 subst hcn
 obtain ⟨G, W1, W2, W3, hG, hG6, hr1, hr2, hr3, hown, hbel⟩ := ins_grow (P := Tryd.prog) w 91 3 101 i0 zRw 9 104 base g n n i b tB (0, 0) A B vs cur hu2 Tryd.underlying3 hi0 hz0 hzs hzb rfl (by decide) hg hbg (by rw [← htk, List.take_of_length_le]; simp only [Array.length_toList]; omega) hA hB hin rfl hv h1v h1B hb (by omega) (by unfold maxLen; omega) hbase
 have H := Aside0.mk (And.intro hown hbel)
 have g1 : ¬ G = i := by omega
 have g2 : ¬ G = i + 1 := by omega
 have p7 : (i : Int) ≤ (G : Int) := by omega
 have NG := Aside0.mk hG
 have NG6 := Aside0.mk hG6
 rw [← had] at hr1
 have e5 : ((n + 1 - i : Nat) : Int) = (n : Int) + 1 - (i : Int) := by omega
 rw [e5] at hr1
 have e4 : (⟨g, i * 9, none⟩ : Addr) = ad.add (i * 9) := by rw [had, addr_at]
 rw [e4] at hr3
 have p9 : IntKind.i64.wrap ((i : Int) + 1) = (i : Int) + 1 := (wrapP i hi63).trans (by push_cast; rfl)
 clear e4 e5 hown hbel hi0 hz0 hzs hzb hv h1v h1B hb hbo hg hcs htk hA hB hAB hov hsz9 ho hcm hG hG6
 rw [← had]
 have HAD := Aside0.mk had
 clear had
 go_enter Tryd.func157, Tryd.ntmps157
 go_wp2_with (first
  | (at_builtin; refine Lib.wpList_append_run _ rfl _ _ _ _ rfl _ _ rfl rfl _ _ (hr1 _) ?_)
  | (at_builtin; refine wpList_copy_run _ rfl _ _ _ _ rfl _ _ rfl rfl (hr2 _ _ _) ?_))
 go_region_law (refine step_copy_run rfl _ _ 91 91 rfl (.slice (some ⟨w.heap.size, (i + 1) * 9, none⟩) (n + 1 - (i + 1)) (G - (i + 1))) (.slice (some (ad.add (i * 9))) (n - i) (n - i)) (by simp [Act.eval, Act.put]) (by simp [Act.eval, Act.put]) (hr3 _ _ _) ?_)
 go_wp2
 go_ret
 refine ⟨_, rfl, H.out.1, grown_of_below H.out.2 _, .inr rfl⟩
theorem slices_Insert_impl_row_impl_row.ins (A : Option Addr) (c : Nat) (L : List S101) (i b tB : Nat) (x : S101) (vs : List Value) (w0 w : World) (hB : Below w0.heap.size w0 w) (hS : Kd.S k101 101 w w0.heap.size (fun _ => True) (.slice A L.length c) L) (hi : i ≤ L.length) (hM : k101.M w w0.heap.size (fun _ => False) x vs)
 (hb : w.heap[b]? = some (.cells vs.toArray tB (0, 0))) (hbo : (Value.slice A L.length c).ownBlock ≠ some b) (hbig : L.length < 4294967296) :
 Calls Tryd.prog 157 #[.slice A L.length c, .int .i64 i, .slice (some ⟨b, 0, none⟩) 1 1] w fun e w' => ∃ v : Value, e = .returned v ∧ Kd.S k101 101 w' w0.heap.size (fun _ => True) v (L.take i ++ x :: L.drop i) ∧ Below w0.heap.size w0 w' ∧ Kept w w' (fun k => some k = (Value.slice A L.length c).ownBlock) := by
 obtain ⟨zs, hz, hR, hO⟩ := S_open hS
 have hzl : zs.length = L.length := by rw [← hz, List.length_map]
 obtain ⟨ho, hlr, h1r⟩ := raw_flat hR
 have hvl : vs.length = 9 := k101.K_len (k101.K_of_M hM)
 have hv1 : ∀ u ∈ vs, u.oneCell' = true := k101.K_one (k101.K_of_M hM)
 have hfin : ∀ (v : Value) (w' : World), w'.ownsRow w0.heap.size 101 9 v (L.length + 1) (((zs.map (·.2.1)).take i).flatten ++ vs ++ ((zs.map (·.2.1)).drop i).flatten) → w.grownBy w' (Value.slice A L.length c).ownBlock → (v.ownBlock = (Value.slice A L.length c).ownBlock ∨ v.ownBlock = some w.heap.size) →
  Kd.S k101 101 w' w0.heap.size (fun _ => True) v (L.take i ++ x :: L.drop i) ∧ Below w0.heap.size w0 w' ∧ Kept w w' (fun k => some k = (Value.slice A L.length c).ownBlock) := by
  intro v w' h1 h2 h3
  refine ⟨S_insert hz hO hR i (Kd.M_step hM (fun k hk => hk.elim)) hvl hv1 hzl.symm h1 h2 h3, hB.grown h2 (below_size hB) (fun k hk => Kd.R_base hR k hk), Kept.of_grown h2 (Kept.refl _ _) (fun k hk => .inl hk.symm)⟩
 have hrl : (zs.map (·.2.1)).length = L.length := by rw [List.length_map, hzl]
 rw [hrl] at ho
 generalize zs.map (·.2.1) = rows at ho hlr h1r hfin hrl
 rcases Nat.lt_or_eq_of_le hi with hlt | he
 ·
  have hsp : rows.flatten = (rows.take i).flatten ++ (rows.drop i).flatten := by rw [← List.flatten_append, List.take_append_drop]
  rw [hsp] at ho
  refine (slices_Insert_impl_row_impl_row.mid A L.length c i b tB w0.heap.size _ _ vs w ho ?_ hlt hvl hv1 ?_ hb hbo hbig (below_size hB)).mono ?_
  · rw [flat_len _ (fun r hr => hlr r (List.mem_of_mem_take hr)), List.length_take, hrl, Nat.min_eq_left hi]
    rfl
  · intro u hu
    obtain ⟨r, hr, hur⟩ := List.mem_flatten.1 hu
    exact h1r r (List.mem_of_mem_drop hr) u hur
  rintro e w' ⟨v, rfl, h1, h2, h3⟩
  exact ⟨v, rfl, hfin v w' h1 h2 h3⟩
 have e1 : rows.take i = rows := List.take_of_length_le (by omega)
 have e2 : rows.drop i = [] := List.drop_eq_nil_of_le (by omega)
 rw [e1, e2, List.flatten_nil, List.append_nil] at hfin
 subst he
 refine (slices_Insert_impl_row_impl_row.last A L.length c b tB w0.heap.size _ vs w ho hvl hv1 hb hbig (below_size hB)).mono ?_
 rintro e w' ⟨v, rfl, h1, h2, h3⟩
 exact ⟨v, rfl, hfin v w' h1 h2 h3⟩
def newR (b0 : Int) (b1 : ByteArray) : RwT := ⟨⟨⟨b0, b1⟩, 0⟩, 0, false, ⟨#[]⟩, [], 0, 0⟩
theorem ins_len {α : Type} (L : List α) (m : Nat) (x : α) (h : m ≤ L.length) : (L.take m ++ x :: L.drop m).length = L.length + 1 := by
 rw [List.length_append, List.length_cons, List.length_take, List.length_drop, Nat.min_eq_left h]
 omega
set_option maxHeartbeats 16000000 in
set_option maxRecDepth 100000 in
theorem impl_ordered_impl_Key_impl_row_insert.insert (k g m : Nat) (fd : Bool) (L : List RwT) (b0 : Int) (b1 : ByteArray) (A : Option Addr) (cA : Nat) (w0 w : World) (hv : w.heap[g]? = some (.cells #[.slice A L.length cA, .func (.func 150) #[] #[], .func (.func 97) #[] #[]] 97 (0, 0))) (hS : Kd.S k101 101 w w0.heap.size (fun _ => True) (.slice A L.length cA) L) (hle : w0.heap.size ≤ g) (hB : Below w0.heap.size w0 w) (h : slices_BinarySearchFunc_impl_row_impl_row_impl_Key.f k L b0 b1 = some ((m : Int), fd)) (hm : m ≤ L.length) (hbig : L.length < 4294967296) :
 Calls Tryd.prog 128 #[.pointer (some ⟨g, 0, none⟩), .agg #[.int .i64 b0, .string b1, .int .i64 0, .int .i64 0, .bool false, .string ⟨#[]⟩, .slice none 0 0, .int .i64 0, .int .i64 0]] w fun e w' => ∃ (gR c : Nat), e = .returned (.pointer (some ⟨gR, m * 9, none⟩)) ∧ w'.heap[g]? = some (.cells #[.slice (some ⟨gR, 0, none⟩) (L.length + 1) c, .func (.func 150) #[] #[], .func (.func 97) #[] #[]] 97 (0, 0)) ∧ Kd.S k101 101 w' w0.heap.size (fun _ => True) (.slice (some ⟨gR, 0, none⟩) (L.length + 1) c) (L.take m ++ newR b0 b1 :: L.drop m) ∧ Below w0.heap.size w0 w' := by
 have hu1 := Tryd.underlying101
 have hu2 := Tryd.underlying29
 have hu3 := Tryd.underlying99
 have hu4 := Tryd.underlying95
 have hu5 := Tryd.underlying97
 have hu6 := Tryd.underlying91
 have HM := Aside0.mk hm
 have HBig := Aside0.mk hbig
 have LEg := Aside0.mk hle
 have HBel := Aside0.mk hB
 have HOR := Aside0.mk (show OrdAt w g A cA L from ⟨(blk_cell hv 0).trans rfl, (blk_cell hv 1).trans rfl, (blk_cell hv 2).trans rfl, (Kd.S_reads' hS).2.2⟩)
 have HV := Aside0.mk hv
 have HS := Aside0.mk hS
 have HF := Aside0.mk h
 clear hv hS hle hB h hm hbig
 go_enter Tryd.func128, Tryd.ntmps128
 go_wp2
 obtain ⟨W2, hW2⟩ : ∃ W2 : World, W2 = w.alloc (.cells #[.int .i64 b0, .string b1, .int .i64 0, .int .i64 0, .bool false, .string ⟨#[]⟩, .slice none 0 0, .int .i64 0, .int .i64 0] 101) := ⟨_, rfl⟩
 rw [← hW2]
 have hb2 : Below w.heap.size w W2 := by rw [hW2]; exact below_alloc (Below.refl _ _) _
 have hx9 : W2.heap[w.heap.size]? = some (.cells #[.int .i64 b0, .string b1, .int .i64 0, .int .i64 0, .bool false, .string ⟨#[]⟩, .slice none 0 0, .int .i64 0, .int .i64 0] 101 (0, 0)) := by rw [hW2]; exact blk_new _ _
 clear hW2
 have HB2 := Aside0.mk hb2
 have HX2 := Aside0.mk hx9
 have HO2 := Aside0.mk (HOR.out.keep hb2)
 clear hb2 hx9
 refine start_ (n := 13) (S := fun w' => w'.cell? ⟨g, 1, none⟩ = some (.func (.func 150) #[] #[]) ∧ w'.cell? ⟨w.heap.size, 0, none⟩ = some (.int .i64 b0) ∧ w'.cell? ⟨w.heap.size, 1, none⟩ = some (.string b1) ∧ w'.cell? ⟨w.heap.size, 2, none⟩ = some (.int .i64 0) ∧ w'.cell? ⟨w.heap.size, 3, none⟩ = some (.int .i64 0) ∧ w'.cell? ⟨w.heap.size, 4, none⟩ = some (.bool false) ∧ w'.cell? ⟨w.heap.size, 5, none⟩ = some (.string ⟨#[]⟩) ∧ w'.cell? ⟨w.heap.size, 6, none⟩ = some (.slice none 0 0) ∧ w'.cell? ⟨w.heap.size, 7, none⟩ = some (.int .i64 0) ∧ w'.cell? ⟨w.heap.size, 8, none⟩ = some (.int .i64 0)) (ds := []) #[false, false, false, false, false, false, false, false, false, false, false, false, false] (by kernel_rfl) rfl rfl ⟨HO2.out.hk, (blk_cell HX2.out 0).trans rfl, (blk_cell HX2.out 1).trans rfl, (blk_cell HX2.out 2).trans rfl, (blk_cell HX2.out 3).trans rfl, (blk_cell HX2.out 4).trans rfl, (blk_cell HX2.out 5).trans rfl, (blk_cell HX2.out 6).trans rfl, (blk_cell HX2.out 7).trans rfl, (blk_cell HX2.out 8).trans rfl⟩ (fun hHeld => ?_)
 refine pureY (i := 0) (N := some 8) (v := ?_) (a' := ?_) #[true, false, false, false, false, false, false, false, false, false, false, false, false] rfl rfl (by kernel_rfl) ⟨by rfl, ?_⟩ ?_ ?_
 rotate_left
 · intro w'
   go_simp
   with_reducible rfl
 rotate_left
 · simp only [Act.put, sA_, i64_w, i32_w]
   rfl
 refine pureY (i := 1) (N := some 9) (v := ?_) (a' := ?_) #[true, true, false, false, false, false, false, false, false, false, false, false, false] rfl rfl (by kernel_rfl) ⟨by rfl, ?_⟩ ?_ ?_
 rotate_left
 · intro w'
   go_simp
   with_reducible rfl
 rotate_left
 · simp only [Act.put, sA_, i64_w, i32_w]
   rfl
 refine pureY (i := 2) (N := some 10) (v := ?_) (a' := ?_) #[true, true, true, false, false, false, false, false, false, false, false, false, false] rfl rfl (by kernel_rfl) ⟨by rfl, ?_⟩ ?_ ?_
 rotate_left
 · intro w'
   go_simp
   with_reducible rfl
 rotate_left
 · simp only [Act.put, sA_, i64_w, i32_w]
   rfl
 refine pureY (i := 3) (N := some 11) (v := ?_) (a' := ?_) #[true, true, true, true, false, false, false, false, false, false, false, false, false] rfl rfl (by kernel_rfl) ⟨by rfl, ?_⟩ ?_ ?_
 rotate_left
 · intro w'
   go_simp
   with_reducible rfl
 rotate_left
 · simp only [Act.put, sA_, i64_w, i32_w]
   rfl
 refine takeY (i := 4) (N := some 12) (v := ?_) (a' := ?_) #[true, true, true, true, true, false, false, false, false, false, false, false, false] rfl rfl (by kernel_rfl) ⟨by rfl, ?_⟩ hHeld ?_ ?_
 rotate_left
 · rintro w' ⟨s0, s1, s2, s3, s4, s5, s6, s7, s8, s9⟩
   go_simp
   with_reducible rfl
 rotate_left
 · simp only [Act.put, sA_, i64_w, i32_w]
   rfl
 refine takeY (i := 5) (N := some 13) (v := ?_) (a' := ?_) #[true, true, true, true, true, true, false, false, false, false, false, false, false] rfl rfl (by kernel_rfl) ⟨by rfl, ?_⟩ hHeld ?_ ?_
 rotate_left
 · rintro w' ⟨s0, s1, s2, s3, s4, s5, s6, s7, s8, s9⟩
   go_simp
   with_reducible rfl
 rotate_left
 · simp only [Act.put, sA_, i64_w, i32_w]
   rfl
 refine one_ (i := 6) (N := some 14) #[true, true, true, true, true, true, true, false, false, false, false, false, false] rfl rfl (by kernel_rfl) (by decide) (fun K hK => ?_)
 refine callv_ #[] Tryd.func150 rfl rfl #[.agg #[.int .i64 b0, .string b1, .int .i64 0, .int .i64 0, .bool false, .string ⟨#[]⟩, .slice none 0 0, .int .i64 0, .int .i64 0]] rfl rfl rfl rfl (by (try simp only [List.map_toArray, List.map_cons, List.map_nil, List.append_toArray, List.append_nil, List.nil_append, List.cons_append]); rfl) ?_
 refine (slices_BinarySearchFunc_impl_row_impl_row_impl_Key.keyOf _ _ _ _ _ _ _ _ _ _ _ _).mono ?_
 rintro e w5 ⟨rfl, hb5⟩
 refine ⟨_, rfl, ?_⟩
 refine hK.out _ _ ⟨pw_cell_below hb5 hHeld.1, pw_cell_below hb5 hHeld.2.1, pw_cell_below hb5 hHeld.2.2.1, pw_cell_below hb5 hHeld.2.2.2.1, pw_cell_below hb5 hHeld.2.2.2.2.1, pw_cell_below hb5 hHeld.2.2.2.2.2.1, pw_cell_below hb5 hHeld.2.2.2.2.2.2.1, pw_cell_below hb5 hHeld.2.2.2.2.2.2.2.1, pw_cell_below hb5 hHeld.2.2.2.2.2.2.2.2.1, pw_cell_below hb5 hHeld.2.2.2.2.2.2.2.2.2⟩ (fun hHeld => ?_)
 clear hK K
 refine norm_ (a' := ?_) ?_ ?_
 rotate_left
 · show Act.put _ (some 14) _ = _
   simp only [Act.put, sA_, i64_w, i32_w]
   rfl
 have HB5 := Aside0.mk (below_step (below_drew1 HB2.out) hb5)
 clear hb5
 refine one_ (i := 7) (N := some 15) #[true, true, true, true, true, true, true, true, false, false, false, false, false] rfl rfl (by kernel_rfl) (by decide) (fun K hK => ?_)
 refine goes_ Tryd.func117 rfl rfl #[.pointer (some ⟨g, 0, none⟩), .agg #[.int .i64 b0, .string b1]] rfl rfl rfl (by (try simp only [List.map_toArray, List.map_cons, List.map_nil, List.append_toArray, List.append_nil, List.nil_append, List.cons_append]); rfl) ?_
 refine (impl_ordered_impl_Key_impl_row_find.place k A cA L b0 b1 g m fd _ (HOR.out.keep HB5.out) HF.out).mono ?_
 rintro e w6 ⟨rfl, hb6⟩
 refine ⟨_, rfl, ?_⟩
 refine hK.out _ _ ⟨pw_cell_below hb6 hHeld.1, pw_cell_below hb6 hHeld.2.1, pw_cell_below hb6 hHeld.2.2.1, pw_cell_below hb6 hHeld.2.2.2.1, pw_cell_below hb6 hHeld.2.2.2.2.1, pw_cell_below hb6 hHeld.2.2.2.2.2.1, pw_cell_below hb6 hHeld.2.2.2.2.2.2.1, pw_cell_below hb6 hHeld.2.2.2.2.2.2.2.1, pw_cell_below hb6 hHeld.2.2.2.2.2.2.2.2.1, pw_cell_below hb6 hHeld.2.2.2.2.2.2.2.2.2⟩ (fun hHeld => ?_)
 clear hK K
 refine norm_ (a' := ?_) ?_ ?_
 rotate_left
 · show Act.put _ (some 15) _ = _
   simp only [Act.put, sA_, i64_w, i32_w]
   rfl
 have HB6 := Aside0.mk (below_step HB5.out hb6)
 clear hb6
 refine pureY (i := 8) (N := some 7) (v := ?_) (a' := ?_) #[true, true, true, true, true, true, true, true, true, false, false, false, false] rfl rfl (by kernel_rfl) ⟨by rfl, ?_⟩ ?_ ?_
 rotate_left
 · intro w'
   go_simp
   with_reducible rfl
 rotate_left
 · simp only [Act.put, sA_, i64_w, i32_w]
   rfl
 refine pureY (i := 9) (N := some 16) (v := ?_) (a' := ?_) #[true, true, true, true, true, true, true, true, true, true, false, false, false] rfl rfl (by kernel_rfl) ⟨by rfl, ?_⟩ ?_ ?_
 rotate_left
 · intro w'
   go_simp
   with_reducible rfl
 rotate_left
 · simp only [Act.put, sA_, i64_w, i32_w]
   rfl
 refine pureY (i := 10) (N := some 17) (v := ?_) (a' := ?_) #[true, true, true, true, true, true, true, true, true, true, true, false, false] rfl rfl (by kernel_rfl) ⟨by rfl, ?_⟩ ?_ ?_
 rotate_left
 · intro w'
   go_simp
   with_reducible rfl
 rotate_left
 · simp only [Act.put, sA_, i64_w, i32_w]
   rfl
 refine pureY (i := 11) (N := some 5) (v := ?_) (a' := ?_) #[true, true, true, true, true, true, true, true, true, true, true, true, false] rfl rfl (by kernel_rfl) ⟨by rfl, ?_⟩ ?_ ?_
 rotate_left
 · intro w'
   go_simp
   with_reducible rfl
 rotate_left
 · simp only [Act.put, sA_, i64_w, i32_w]
   rfl
 refine pureY (i := 12) (N := some 6) (v := ?_) (a' := ?_) #[true, true, true, true, true, true, true, true, true, true, true, true, true] rfl rfl (by kernel_rfl) ⟨by rfl, ?_⟩ ?_ ?_
 rotate_left
 · intro w'
   go_simp
   with_reducible rfl
 rotate_left
 · simp only [Act.put, sA_, i64_w, i32_w]
   rfl
 refine done_ (by kernel_rfl) ?_
 have HV6 := Aside0.mk (blk_below HV.out HB6.out)
 have HS6 := Aside0.mk (Kd.S_below HS.out HB6.out)
 have HL6 := Aside0.mk (below_step HBel.out HB6.out)
 obtain ⟨-, y0, y1, y2, y3, y4, y5, y6, y7, y8⟩ := hHeld
 have HY := Aside0.mk (⟨y0, y1, y2, y3, y4, y5, y6, y7, y8⟩ : w6.cell? ⟨w.heap.size, 0, none⟩ = some (.int .i64 b0) ∧ w6.cell? ⟨w.heap.size, 1, none⟩ = some (.string b1) ∧ w6.cell? ⟨w.heap.size, 2, none⟩ = some (.int .i64 0) ∧ w6.cell? ⟨w.heap.size, 3, none⟩ = some (.int .i64 0) ∧ w6.cell? ⟨w.heap.size, 4, none⟩ = some (.bool false) ∧ w6.cell? ⟨w.heap.size, 5, none⟩ = some (.string ⟨#[]⟩) ∧ w6.cell? ⟨w.heap.size, 6, none⟩ = some (.slice none 0 0) ∧ w6.cell? ⟨w.heap.size, 7, none⟩ = some (.int .i64 0) ∧ w6.cell? ⟨w.heap.size, 8, none⟩ = some (.int .i64 0))
 clear y0 y1 y2 y3 y4 y5 y6 y7 y8
 go_wp2
 refine start_ (n := 12) (S := fun w' => w'.cell? ⟨g, 0, none⟩ = some (.slice A L.length cA) ∧ w'.cell? ⟨w.heap.size, 0, none⟩ = some (.int .i64 b0) ∧ w'.cell? ⟨w.heap.size, 1, none⟩ = some (.string b1) ∧ w'.cell? ⟨w.heap.size, 2, none⟩ = some (.int .i64 0) ∧ w'.cell? ⟨w.heap.size, 3, none⟩ = some (.int .i64 0) ∧ w'.cell? ⟨w.heap.size, 4, none⟩ = some (.bool false) ∧ w'.cell? ⟨w.heap.size, 5, none⟩ = some (.string ⟨#[]⟩) ∧ w'.cell? ⟨w.heap.size, 6, none⟩ = some (.slice none 0 0) ∧ w'.cell? ⟨w.heap.size, 7, none⟩ = some (.int .i64 0) ∧ w'.cell? ⟨w.heap.size, 8, none⟩ = some (.int .i64 0)) (ds := [8, 11]) #[false, false, false, false, false, false, false, false, false, false, false, false] (by kernel_rfl) rfl rfl ⟨(blk_cell HV6.out 0).trans rfl, HY.out⟩ (fun hHeld => ?_)
 refine pureY (i := 0) (N := some 18) (v := ?_) (a' := ?_) #[true, false, false, false, false, false, false, false, false, false, false, false] rfl rfl (by kernel_rfl) ⟨by rfl, ?_⟩ ?_ ?_
 rotate_left
 · intro w'
   go_simp
   with_reducible rfl
 rotate_left
 · simp only [Act.put, sA_, i64_w, i32_w]
   rfl
 refine pureY (i := 1) (N := some 19) (v := ?_) (a' := ?_) #[true, true, false, false, false, false, false, false, false, false, false, false] rfl rfl (by kernel_rfl) ⟨by rfl, ?_⟩ ?_ ?_
 rotate_left
 · intro w'
   go_simp
   with_reducible rfl
 rotate_left
 · simp only [Act.put, sA_, i64_w, i32_w]
   rfl
 refine pureY (i := 2) (N := some 20) (v := ?_) (a' := ?_) #[true, true, true, false, false, false, false, false, false, false, false, false] rfl rfl (by kernel_rfl) ⟨by rfl, ?_⟩ ?_ ?_
 rotate_left
 · intro w'
   go_simp
   with_reducible rfl
 rotate_left
 · simp only [Act.put, sA_, i64_w, i32_w]
   rfl
 refine pureY (i := 3) (N := some 21) (v := ?_) (a' := ?_) #[true, true, true, true, false, false, false, false, false, false, false, false] rfl rfl (by kernel_rfl) ⟨by rfl, ?_⟩ ?_ ?_
 rotate_left
 · intro w'
   go_simp
   with_reducible rfl
 rotate_left
 · simp only [Act.put, sA_, i64_w, i32_w]
   rfl
 refine takeY (i := 4) (N := some 22) (v := ?_) (a' := ?_) #[true, true, true, true, true, false, false, false, false, false, false, false] rfl rfl (by kernel_rfl) ⟨by rfl, ?_⟩ hHeld ?_ ?_
 rotate_left
 · rintro w' ⟨s0, s1, s2, s3, s4, s5, s6, s7, s8, s9⟩
   go_simp
   with_reducible rfl
 rotate_left
 · simp only [Act.put, sA_, i64_w, i32_w]
   rfl
 refine pureY (i := 5) (N := some 23) (v := ?_) (a' := ?_) #[true, true, true, true, true, true, false, false, false, false, false, false] rfl rfl (by kernel_rfl) ⟨by rfl, ?_⟩ ?_ ?_
 rotate_left
 · intro w'
   go_simp
   with_reducible rfl
 rotate_left
 · simp only [Act.put, sA_, i64_w, i32_w]
   rfl
 refine takeY (i := 6) (N := some 24) (v := ?_) (a' := ?_) #[true, true, true, true, true, true, true, false, false, false, false, false] rfl rfl (by kernel_rfl) ⟨by rfl, ?_⟩ hHeld ?_ ?_
 rotate_left
 · rintro w' ⟨s0, s1, s2, s3, s4, s5, s6, s7, s8, s9⟩
   go_simp
   with_reducible rfl
 rotate_left
 · simp only [Act.put, sA_, i64_w, i32_w]
   rfl
 refine one_ (i := 7) (N := some 25) #[true, true, true, true, true, true, true, true, false, false, false, false] rfl rfl (by kernel_rfl) (by decide) (fun K hK => ?_)
 refine value_ (v := .slice (some ⟨w6.heap.size, 0, none⟩) 1 1) (w1 := w6.drew.alloc (.cells #[.int .i64 b0, .string b1, .int .i64 0, .int .i64 0, .bool false, .string ⟨#[]⟩, .slice none 0 0, .int .i64 0, .int .i64 0] 101)) (by rfl) rfl ?_ ?_
 · go_simp
 refine hK.out _ _ ⟨pw_cell_below (below_alloc (Below.refl _ _) _) hHeld.1, pw_cell_below (below_alloc (Below.refl _ _) _) hHeld.2.1, pw_cell_below (below_alloc (Below.refl _ _) _) hHeld.2.2.1, pw_cell_below (below_alloc (Below.refl _ _) _) hHeld.2.2.2.1, pw_cell_below (below_alloc (Below.refl _ _) _) hHeld.2.2.2.2.1, pw_cell_below (below_alloc (Below.refl _ _) _) hHeld.2.2.2.2.2.1, pw_cell_below (below_alloc (Below.refl _ _) _) hHeld.2.2.2.2.2.2.1, pw_cell_below (below_alloc (Below.refl _ _) _) hHeld.2.2.2.2.2.2.2.1, pw_cell_below (below_alloc (Below.refl _ _) _) hHeld.2.2.2.2.2.2.2.2.1, pw_cell_below (below_alloc (Below.refl _ _) _) hHeld.2.2.2.2.2.2.2.2.2⟩ (fun hHeld => ?_)
 clear hK K
 refine norm_ (a' := ?_) ?_ ?_
 rotate_left
 · show Act.put _ (some 25) _ = _
   simp only [Act.put, sA_, i64_w, i32_w]
   rfl
 obtain ⟨W7, hW7⟩ : ∃ W7 : World, W7 = w6.drew.alloc (.cells #[.int .i64 b0, .string b1, .int .i64 0, .int .i64 0, .bool false, .string ⟨#[]⟩, .slice none 0 0, .int .i64 0, .int .i64 0] 101) := ⟨_, rfl⟩
 rw [← hW7]
 have hb7 : Below w6.heap.size w6 W7 := by rw [hW7]; exact below_alloc (below_drew (Below.refl _ _)) _
 have hx7 : W7.heap[w6.heap.size]? = some (.cells #[.int .i64 b0, .string b1, .int .i64 0, .int .i64 0, .bool false, .string ⟨#[]⟩, .slice none 0 0, .int .i64 0, .int .i64 0] 101 (0, 0)) := by rw [hW7]; exact blk_new w6.drew _
 clear hW7
 have HX7 := Aside0.mk hx7
 have HV7 := Aside0.mk (blk_below HV6.out hb7)
 have HS7 := Aside0.mk (Kd.S_below HS6.out hb7)
 have HL7 := Aside0.mk (below_step HL6.out hb7)
 have HN7 := Aside0.mk (show (Value.slice A L.length cA).ownBlock ≠ some w6.heap.size from fun e => Nat.lt_irrefl _ (Kd.S_lt HS6.out _ e))
 clear hb7 hx7
 refine last_ (i := 8) (N := some 26) #[true, true, true, true, true, true, true, true, true, false, false, false] rfl rfl (by kernel_rfl) (by decide) (fun K hK => ?_)
 refine goes_ Tryd.func157 rfl rfl #[.slice A L.length cA, .int .i64 (m : Int), .slice (some ⟨w6.heap.size, 0, none⟩) 1 1] rfl rfl rfl (by (try simp only [List.map_toArray, List.map_cons, List.map_nil, List.append_toArray, List.append_nil, List.nil_append, List.cons_append]); rfl) ?_
 refine (slices_Insert_impl_row_impl_row.ins A cA L m w6.heap.size 101 (newR b0 b1) [.int .i64 b0, .string b1, .int .i64 0, .int .i64 0, .bool false, .string ⟨#[]⟩, .slice none 0 0, .int .i64 0, .int .i64 0] w0 _ HL7.out HS7.out HM.out (k101_mkM _ _ _ (newR b0 b1) (Kd.R_nil _ _ _ _ _)) HX7.out HN7.out HBig.out).mono ?_
 rintro e w8 ⟨v, rfl, hs8, hb8, hk8⟩
 refine ⟨_, rfl, ?_⟩
 refine hK.out _ _ ?_
 clear hK K
 refine norm_ (a' := ?_) ?_ ?_
 rotate_left
 · show Act.put _ (some 26) _ = _
   simp only [Act.put, sA_, i64_w, i32_w]
   rfl
 obtain ⟨gR, c, rfl, hgR⟩ := Kd.S_form hs8 (by rw [ins_len _ _ _ HM.out]; omega)
 rw [ins_len _ _ _ HM.out] at hs8 ⊢
 have hneG : g ≠ gR := fun e => Kd.S_ne hs8 (blk_kept HV7.out hk8 (fun e => Kd.S_ne HS7.out HV7.out (by decide) e)) (by decide) (by rw [e]; simp [Value.ownBlock])
 have HV8 := Aside0.mk (blk_kept HV7.out hk8 (fun e => Kd.S_ne HS7.out HV7.out (by decide) e))
 have HS8 := Aside0.mk hs8
 have HB8 := Aside0.mk hb8
 have HNE := Aside0.mk hneG
 clear hs8 hb8 hk8 hgR hneG
 refine pureY (i := 9) (N := some 27) (v := ?_) (a' := ?_) #[true, true, true, true, true, true, true, true, true, true, false, false] rfl rfl (by kernel_rfl) ⟨by rfl, ?_⟩ ?_ ?_
 rotate_left
 · intro w'
   go_simp
   with_reducible rfl
 rotate_left
 · simp only [Act.put, sA_, i64_w, i32_w]
   rfl
 refine pureY (i := 10) (N := some 28) (v := ?_) (a' := ?_) #[true, true, true, true, true, true, true, true, true, true, true, false] rfl rfl (by kernel_rfl) ⟨by rfl, ?_⟩ ?_ ?_
 rotate_left
 · intro w'
   go_simp
   with_reducible rfl
 rotate_left
 · simp only [Act.put, sA_, i64_w, i32_w]
   rfl
 refine last_ (i := 11) (N := none) #[true, true, true, true, true, true, true, true, true, true, true, true] rfl rfl (by kernel_rfl) (by decide) (fun K hK => ?_)
 have hc0 : w8.cell? ⟨g, 0, none⟩ = some (.slice A L.length cA) := (blk_cell HV8.out 0).trans rfl
 have hf0 := blk_frozen HV8.out 0
 refine skip_ (w1 := w8.setCell ⟨g, 0, none⟩ (.slice (some ⟨gR, 0, none⟩) (L.length + 1) c)) (by rfl) rfl ?_ ?_
 · go_simp
 clear hc0 hf0
 refine hK.out _ _ ?_
 clear hK K
 refine done_ (by kernel_rfl) ?_
 clear hHeld
 obtain ⟨W9, hW9⟩ : ∃ W9 : World, W9 = w8.setCell ⟨g, 0, none⟩ (.slice (some ⟨gR, 0, none⟩) (L.length + 1) c) := ⟨_, rfl⟩
 rw [← hW9]
 have HV9 := Aside0.mk (show W9.heap[g]? = some (.cells #[.slice (some ⟨gR, 0, none⟩) (L.length + 1) c, .func (.func 150) #[] #[], .func (.func 97) #[] #[]] 97 (0, 0)) by rw [hW9]; exact blk_put HV8.out 0 _ rfl)
 have HS9 := Aside0.mk (show Kd.S k101 101 W9 w0.heap.size (fun _ => True) (.slice (some ⟨gR, 0, none⟩) (L.length + 1) c) (L.take m ++ newR b0 b1 :: L.drop m) by rw [hW9]; exact Kd.S_set HS8.out HV8.out (by decide) 0 _)
 have HB9 := Aside0.mk (show Below w0.heap.size w0 W9 by rw [hW9]; exact below_set HB8.out LEg.out)
 clear hW9
 have hx : W9.cell? ⟨g, 0, none⟩ = some (.slice (some ⟨gR, 0, none⟩) (L.length + 1) c) := (blk_cell HV9.out 0).trans rfl
 have p0 : (0 : Int) ≤ (m : Int) := by omega
 have q0 : (m : Int) < (L.length : Int) + 1 := by have := HM.out; omega
 have q1 : m < L.length + 1 := by have := HM.out; omega
 go_wp2
 go_ret
 exact ⟨gR, c, rfl, HV9.out, HS9.out, HB9.out⟩
end Go.Proofs.YtnbohlcibgfjaaaDoor.Gp
end
