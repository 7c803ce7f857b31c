/- A part of the proof of RowFnExactClaim: each text's theorems that it needs, packed by shake.py, a program of this work; Lean checks them. -/
import Derived.Test.YtnbohlcibgfjaaaDoorClm3
import Derived.Test.YtnbohlcibgfjaaaDoorClm18
import Derived.Lib.SliceRun
import Derived.Test.YtnbohlcibgfjaaaDoorClm1
import Derived.Laws.IdiomCopy
section
namespace Go.Proofs.YtnbohlcibgfjaaaDoor.Gp
open Go.RowKit Go.Proofs.YtnbohlcibgfjaaaDoorW.PrintWords Go.Proofs.YtnbohlcibgfjaaaDoorW.PrintLast Go.Proofs.YtnbohlcibgfjaaaDoorW.PrintMore
set_option linter.unusedVariables false
set_option linter.unusedSimpArgs false
structure OrdAt (W : World) (go : Nat) (A : Option Addr) (c : Nat) (l : List RwT) : Prop where
 h0 : W.cell? ⟨go, 0, none⟩ = some (.slice A l.length c)
 hk : W.cell? ⟨go, 1, none⟩ = some (.func (.func 150) #[] #[])
 hc : W.cell? ⟨go, 2, none⟩ = some (.func (.func 97) #[] #[])
 hr : Kd.C k101 W A l.length l
theorem OrdAt.keep {W W1 : World} {go : Nat} {A : Option Addr} {c : Nat} {l : List RwT} (h : OrdAt W go A c l) (b : Below W.heap.size W W1) : OrdAt W1 go A c l := ⟨pw_cell_below b h.h0, pw_cell_below b h.hk, pw_cell_below b h.hc, Kd.C_below h.hr b⟩
set_option maxHeartbeats 8000000 in
set_option maxRecDepth 100000 in
theorem impl_ordered_impl_Key_impl_row_find.place (k : Nat) (A : Option Addr) (c : Nat) (l : List RwT) (b0 : Int) (b1 : ByteArray) (go : Nat) (i : Int) (fd : Bool) (w : World) (hO : OrdAt w go A c l) (h : slices_BinarySearchFunc_impl_row_impl_row_impl_Key.f k l b0 b1 = some (i, fd)) :
 Calls Tryd.prog 117 #[.pointer (some ⟨go, 0, none⟩), .agg #[.int .i64 b0, .string b1]] w fun e w' => e = .returned (.tuple #[.int .i64 i, .bool fd]) ∧ Below w.heap.size w w' := by
 have hu3 := Tryd.underlying29
 have hu4 := Tryd.underlying95
 have hmf : ∀ (fn : Fn) (first cap : Array Value) (w : World), (Instr.makeFunc fn first cap).run Tryd.prog w = .ok (.func fn first cap) w := fun _ _ _ _ => rfl
 have H := Aside0.mk h
 have HO := Aside0.mk hO
 clear h hO
 go_enter Tryd.func117, Tryd.ntmps117
 go_wp2
 have hbx : ∃ W2 : World, W2 = ((w.alloc (.cells #[.pointer (some ⟨go, 0, none⟩)] 157)).alloc (.cells #[.int .i64 b0, .string b1] 29)) := ⟨_, rfl⟩
 obtain ⟨W2, hW2⟩ := hbx
 rw [← hW2]
 have hB2 : Below w.heap.size w W2 := by rw [hW2]; repeat (first | exact Below.refl _ _ | apply below_alloc)
 have hx3 : W2.heap[w.heap.size]? = some (.cells #[.pointer (some ⟨go, 0, none⟩)] 157 (0, 0)) := by rw [hW2]; exact blk_alloc (blk_new w _) _
 have hx4 : W2.heap[w.heap.size + 1]? = some (.cells #[.int .i64 b0, .string b1] 29 (0, 0)) := by rw [hW2]; exact blk_new_at (by simp)
 clear hW2
 have HB2 := Aside0.mk hB2
 clear hB2
 have HO2 := Aside0.mk (HO.out.keep HB2.out)
 generalize w.heap.size + 1 = g4 at hx4 ⊢
 have HX3 := Aside0.mk hx3
 have HX4 := Aside0.mk hx4
 clear hx3 hx4
 refine start_ (n := 11) (S := fun w' => w'.cell? ⟨w.heap.size, 0, none⟩ = some (.pointer (some ⟨go, 0, none⟩)) ∧ w'.cell? ⟨go, 0, none⟩ = some (.slice A l.length c) ∧ w'.cell? ⟨g4, 0, none⟩ = some (.int .i64 b0) ∧ w'.cell? ⟨g4, 1, none⟩ = some (.string b1)) (ds := []) #[false, false, false, false, false, false, false, false, false, false, false] (by kernel_rfl) rfl rfl ⟨(blk_cell HX3.out 0).trans rfl, HO2.out.h0, (blk_cell HX4.out 0).trans rfl, (blk_cell HX4.out 1).trans rfl⟩ (fun hHeld => ?_)
 refine takeY (i := 0) (N := some 6) (v := ?_) (a' := ?_) #[true, false, false, false, false, false, false, false, false, false, false] rfl rfl (by kernel_rfl) ⟨by rfl, ?_⟩ hHeld ?_ ?_
 rotate_left
 · rintro w' ⟨s0, s1, s2, s3⟩
   go_simp
   with_reducible rfl
 rotate_left
 · simp only [Act.put, sA_, i64_w, i32_w]
   rfl
 refine pureY (i := 1) (N := some 7) (v := ?_) (a' := ?_) #[true, true, false, false, false, false, false, false, false, false, false] rfl rfl (by kernel_rfl) ⟨by rfl, ?_⟩ ?_ ?_
 rotate_left
 · intro w'
   go_simp
   with_reducible rfl
 rotate_left
 · simp only [Act.put, sA_, i64_w, i32_w]
   rfl
 refine pureY (i := 2) (N := some 8) (v := ?_) (a' := ?_) #[true, true, true, false, false, false, false, false, false, false, false] rfl rfl (by kernel_rfl) ⟨by rfl, ?_⟩ ?_ ?_
 rotate_left
 · intro w'
   go_simp
   with_reducible rfl
 rotate_left
 · simp only [Act.put, sA_, i64_w, i32_w]
   rfl
 refine takeY (i := 3) (N := some 9) (v := ?_) (a' := ?_) #[true, true, true, true, false, false, false, false, false, false, false] rfl rfl (by kernel_rfl) ⟨by rfl, ?_⟩ hHeld ?_ ?_
 rotate_left
 · rintro w' ⟨s0, s1, s2, s3⟩
   go_simp
   with_reducible rfl
 rotate_left
 · simp only [Act.put, sA_, i64_w, i32_w]
   rfl
 refine takeY (i := 4) (N := some 10) (v := ?_) (a' := ?_) #[true, true, true, true, true, false, false, false, false, false, false] rfl rfl (by kernel_rfl) ⟨by rfl, ?_⟩ hHeld ?_ ?_
 rotate_left
 · rintro w' ⟨s0, s1, s2, s3⟩
   go_simp
   with_reducible rfl
 rotate_left
 · simp only [Act.put, sA_, i64_w, i32_w]
   rfl
 refine pureY (i := 5) (N := some 11) (v := ?_) (a' := ?_) #[true, true, true, true, true, true, false, false, false, false, false] rfl rfl (by kernel_rfl) ⟨by rfl, ?_⟩ ?_ ?_
 rotate_left
 · intro w'
   go_simp
   with_reducible rfl
 rotate_left
 · simp only [Act.put, sA_, i64_w, i32_w]
   rfl
 refine one_ (i := 6) (N := some 12) #[true, true, true, true, true, true, true, false, false, false, false] rfl rfl (by kernel_rfl) (by decide) (fun K hK => ?_)
 refine goes_ Tryd.func151 rfl rfl #[.slice A l.length c, .agg #[.int .i64 b0, .string b1], .func (.func 152) #[] #[.pointer (some ⟨w.heap.size, 0, none⟩)]] rfl rfl rfl (by (try simp only [List.map_toArray, List.map_cons, List.map_nil, List.append_toArray, List.append_nil, List.nil_append, List.cons_append]); rfl) ?_
 refine (slices_BinarySearchFunc_impl_row_impl_row_impl_Key.search k A c l b0 b1 w.heap.size go i fd _ ⟨(blk_cell (blk_drew HX3.out) 0).trans rfl, (HO2.out.keep (below_drew1 (Below.refl _ _))).hk, (HO2.out.keep (below_drew1 (Below.refl _ _))).hc⟩ (HO2.out.keep (below_drew1 (Below.refl _ _))).hr H.out).mono ?_
 rintro e w6 ⟨rfl, hb6⟩
 refine ⟨_, rfl, ?_⟩
 refine hK.out _ _ ⟨pw_cell_below hb6 hHeld.1, pw_cell_below hb6 hHeld.2.1, pw_cell_below hb6 hHeld.2.2.1, pw_cell_below hb6 hHeld.2.2.2⟩ (fun hHeld => ?_)
 clear hK K
 refine norm_ (a' := ?_) ?_ ?_
 rotate_left
 · show Act.put _ (some 12) _ = _
   simp only [Act.put, sA_, i64_w, i32_w]
   rfl
 have HB6 := Aside0.mk (below_step (below_drew1 HB2.out) hb6)
 clear hb6
 refine pureY (i := 7) (N := some 13) (v := ?_) (a' := ?_) #[true, true, true, true, true, true, true, true, false, false, false] rfl rfl (by kernel_rfl) ⟨by rfl, ?_⟩ ?_ ?_
 rotate_left
 · intro w'
   go_simp
   with_reducible rfl
 rotate_left
 · simp only [Act.put, sA_, i64_w, i32_w]
   rfl
 refine pureY (i := 8) (N := some 14) (v := ?_) (a' := ?_) #[true, true, true, true, true, true, true, true, true, false, false] rfl rfl (by kernel_rfl) ⟨by rfl, ?_⟩ ?_ ?_
 rotate_left
 · intro w'
   go_simp
   with_reducible rfl
 rotate_left
 · simp only [Act.put, sA_, i64_w, i32_w]
   rfl
 refine pureY (i := 9) (N := some 4) (v := ?_) (a' := ?_) #[true, true, true, true, true, true, true, true, true, true, false] rfl rfl (by kernel_rfl) ⟨by rfl, ?_⟩ ?_ ?_
 rotate_left
 · intro w'
   go_simp
   with_reducible rfl
 rotate_left
 · simp only [Act.put, sA_, i64_w, i32_w]
   rfl
 refine pureY (i := 10) (N := some 5) (v := ?_) (a' := ?_) #[true, true, true, true, true, true, true, true, true, true, true] rfl rfl (by kernel_rfl) ⟨by rfl, ?_⟩ ?_ ?_
 rotate_left
 · intro w'
   go_simp
   with_reducible rfl
 rotate_left
 · simp only [Act.put, sA_, i64_w, i32_w]
   rfl
 refine done_ (by kernel_rfl) ?_
 try go_wp2
 go_ret2
 exact ⟨rfl, HB6.out⟩
def impl_ordered_impl_Key_impl_row_find.f (k : Nat) (l : List RwT) (b0 : Int) (b1 : ByteArray) : Option (Option Int) := (slices_BinarySearchFunc_impl_row_impl_row_impl_Key.f k l b0 b1).bind fun p => (if p.2 = true then (if 0 ≤ p.1 ∧ p.1 < (l.length : Int) then some (some p.1) else none) else some none)
def ptrRow (A : Option Addr) (o : Option Int) : Value := match A, o with | some ad, some i => .pointer (some (ad.add (i.toNat * 9))) | _, _ => .pointer none
set_option maxHeartbeats 8000000 in
set_option maxRecDepth 100000 in
theorem impl_ordered_impl_Key_impl_row_find.find (k : Nat) (A : Option Addr) (c : Nat) (l : List RwT) (b0 : Int) (b1 : ByteArray) (go : Nat) (o : Option Int) (w : World) (hO : OrdAt w go A c l) (h : impl_ordered_impl_Key_impl_row_find.f k l b0 b1 = some o) :
 Calls Tryd.prog 59 #[.pointer (some ⟨go, 0, none⟩), .agg #[.int .i64 b0, .string b1]] w fun e w' => e = .returned (ptrRow A o) ∧ Below w.heap.size w w' ∧ (∀ i, o = some i → 0 ≤ i ∧ i < (l.length : Int)) := by
 have hu3 := Tryd.underlying29
 have hu4 := Tryd.underlying95
 have hu5 := Tryd.underlying101
 unfold impl_ordered_impl_Key_impl_row_find.f at h
 obtain ⟨⟨i, fd⟩, hp, h⟩ := Option.bind_eq_some_iff.mp h
 have HP := Aside0.mk hp
 have HO := Aside0.mk hO
 clear hp hO
 cases fd with
 | false =>
  rw [if_neg (by simp)] at h
  obtain rfl := Option.some.inj h
  clear h
  go_enter Tryd.func59, Tryd.ntmps59
  go_wp2_with (go_at_call 117; refine (impl_ordered_impl_Key_impl_row_find.place k A c l b0 b1 go i false _ (by exact HO.out.keep (by repeat (first | exact Below.refl _ _ | apply below_alloc))) HP.out).mono ?_; rintro e w6 ⟨rfl, hb6⟩; have HB6 : Aside0 (Below w.heap.size w w6) := ⟨below_step (by repeat (first | exact Below.refl _ _ | apply below_alloc)) hb6⟩; clear hb6)
  go_ret
  exact ⟨by cases A <;> rfl, HB6.out, fun i h => by cases h⟩
 | true =>
  rw [if_pos rfl] at h
  by_cases g : 0 ≤ i ∧ i < (l.length : Int)
  ·
   rw [if_pos g] at h
   obtain rfl := Option.some.inj h
   have p0 := eq_true g.1
   have q0 := eq_true g.2
   obtain ⟨ad, A6, c6, eA, _⟩ := at_T101 HO.out.hr i g.1 g.2
   cases eA
   have G := Aside0.mk g
   clear h g
   go_enter Tryd.func59, Tryd.ntmps59
   go_wp2_with (go_at_call 117; refine (impl_ordered_impl_Key_impl_row_find.place k _ c l b0 b1 go i true _ (by exact HO.out.keep (by repeat (first | exact Below.refl _ _ | apply below_alloc))) HP.out).mono ?_; rintro e w6 ⟨rfl, hb6⟩; have HB6 : Aside0 (Below w.heap.size w w6) := ⟨below_step (by repeat (first | exact Below.refl _ _ | apply below_alloc)) hb6⟩; clear hb6; have hx0 := (HO.out.keep HB6.out).h0)
   go_ret
   exact ⟨rfl, HB6.out, fun i h => by cases h; exact G.out⟩
  rw [if_neg g] at h
  cases h
def slices_Clone_impl_Key_impl_Key.f (l0 : List S29) : Option (List S29) := if l0.length < 4398046511104 then some l0 else none
set_option maxHeartbeats 4000000 in
set_option maxRecDepth 100000 in
theorem slices_Clone_impl_Key_impl_Key.calls (A0 : Option Addr) (c0 : Nat) (l0 : List S29) (r : List S29) (w : World) (hr0 : Kd.C k29 w A0 l0.length l0) (hc0 : l0.length ≤ c0) (h : slices_Clone_impl_Key_impl_Key.f l0 = some r) :
 Calls Tryd.prog 118 #[.slice A0 l0.length c0] w fun e w' => ∃ v0_ : Value, e = .returned (v0_) ∧ Kd.R k29 29 w' w.heap.size (fun _ => True) v0_ r ∧ Below w.heap.size w w' := by
 have hu := Tryd.underlying29
 have heq : ∀ (w : World) (a : Option Addr) (n c n' c' : Nat), (binOp .eql 30 (.slice a n c) (.slice none n' c')).run Tryd.prog w = .ok (.bool a.isNone) w := fun w a n c n' c' => Lib.run_eql_slice_nil w _ _ a n c n' c' Tryd.underlying30
 unfold slices_Clone_impl_Key_impl_Key.f at h
 by_cases hb : l0.length < 4398046511104
 ·
  rw [if_pos hb] at h
  obtain rfl := Option.some.inj h
  have HR0 := Aside0.mk hr0
  have HL := Aside0.mk hb
  clear hr0 hb h hc0
  cases A0 with
  | none =>
   have h0 : l0 = [] := by
    rcases Nat.eq_zero_or_pos l0.length with h0 | h0
    · exact List.eq_nil_of_length_eq_zero h0
    obtain ⟨ad, h, _⟩ := HR0.out.2.2 h0
    cases h
   subst h0
   clear HR0 HL
   go_enter Tryd.func118, Tryd.ntmps118
   go_wp2
   go_ret
   exact ⟨_, rfl, Kd.R_nil _ _ _ _ _, Below.refl _ _⟩
  | some ad =>
   have HB := Aside0.mk (Below.refl w.heap.size w)
   go_enter Tryd.func118, Tryd.ntmps118
   go_wp2_with (first | ((with_reducible refine gate_dst (N := 5) rfl ?_); refine Kd.R_lit k29 _ 29 ?hg (N := 5) ?hd (xs := ([] : List (S29))) (inner := []) (ok := fun _ => True) (okp := fun _ => True) ?hr ?hp (fun _ hk => hk) trivial (Below.refl _ _) (Nat.le_refl _) (by simp) ?_; (case hd => rfl); (case hg => rfl); (case hr => first | (go_simp; done) | (go_simp; rfl)); (case hp => exact (Reps.none _ _)); intro v5 w5 ho5 hb5 _ _; have HO5 := Aside0.mk ho5; have HB5 := Aside0.mk hb5; clear ho5 hb5) | ((with_reducible refine gate_builtin (b := .append) (xs := #[.tmp 5, .tmp 6]) rfl ?_); at_builtin; refine Kd.R_append_rows k29 (w0 := w) w.heap.size rfl (.tmp 5) (.tmp 6) 30 29 (.agg #[(.int .i64 0), (.string ⟨#[]⟩)]) 24 rfl Tryd.underlying30 info29 rfl (by decide) (by omega) v5 ([] : List S29) l0 _ _ _ (fun _ => True) (fun _ => False) rfl rfl HO5.out (Kd.C_below HR0.out HB5.out) (fun _ _ h => h) (fun _ h => h.elim) (fun _ _ => trivial) HB5.out (below_size HB5.out) (by have := HL.out; simp; omega) ?_; intro v6 w6 ho6 hb6 _ _; have HO6 := Aside0.mk ho6; have HB6 := Aside0.mk hb6; clear ho6 hb6))
   go_ret
   exact ⟨_, rfl, by simpa using HO6.out, HB6.out⟩
 rw [if_neg hb] at h
 cases h
def impl_rowOf.f (a0_0 : Int) (a0_1 : ByteArray) (a0_2 : Bool) (a0_3 : ByteArray) (l0_4 : List (S29)) (a0_5 : Int) (a0_6 : Int) (a0_7 : Int) (a0_8 : Int) : Option (Int × ByteArray × Int × Int × Bool × ByteArray × (List (S29)) × Int × Int) := (slices_Clone_impl_Key_impl_Key.f l0_4).bind fun t346 => (some (a0_0, a0_1, a0_8, a0_7, a0_2, a0_3, t346, a0_5, a0_6))
def impl_rowOf.T1 : Bool × List (List Nat × List Nat) := (true, [([], []), ([0], [0]), ([], []), ([2], [2]), ([1, 3], [1, 3]), ([], []), ([5], [5]), ([], []), ([7], [7]), ([], []), ([9], [9]), ([], []), ([11], [11]), ([12], [12]), ([], []), ([14], [14]), ([], []), ([16], [16]), ([4, 6, 8, 10, 13, 15, 17], [4, 6, 8, 10, 13, 15, 17]), ([18, 13, 0, 1, 2, 3, 4, 5, 6, 7, 8, 9, 10, 11, 12, 13, 14, 15, 16, 17, 18], [18])])
def impl_rowOf.B1 : List Nat := [0, 1, 0, 4, 15, 0, 32, 0, 128, 0, 512, 0, 2048, 6144, 0, 16384, 0, 65536, 262143, 524287]
theorem impl_rowOf.tab1 : rtab .any (opsOf Tryd.f116 1) = impl_rowOf.T1 := by kernel_rfl
theorem impl_rowOf.bits1 : waitsOk impl_rowOf.T1.2 impl_rowOf.B1 = true := by kernel_rfl
set_option maxHeartbeats 8000000 in
set_option maxRecDepth 100000 in
theorem impl_rowOf.calls (a0_0 : Int) (a0_1 : ByteArray) (a0_2 : Bool) (a0_3 : ByteArray) (A0_4 : Option Addr) (c0_4 : Nat) (l0_4 : List (S29)) (a0_5 : Int) (a0_6 : Int) (a0_7 : Int) (a0_8 : Int) (r1 : Int) (r2 : ByteArray) (r3 : Int) (r4 : Int) (r5 : Bool) (r6 : ByteArray) (r7 : List (S29)) (r8 : Int) (r9 : Int) (w : World) (hr0_4 : Kd.C k29 w A0_4 l0_4.length l0_4) (hc0_4 : l0_4.length ≤ c0_4) (h : impl_rowOf.f a0_0 a0_1 a0_2 a0_3 l0_4 a0_5 a0_6 a0_7 a0_8 = some (r1, r2, r3, r4, r5, r6, r7, r8, r9)) :
 Calls Tryd.prog 116 #[.agg #[.int .i64 a0_0, .string a0_1, .bool a0_2, .string a0_3, .slice A0_4 l0_4.length c0_4, .int .i64 a0_5, .int .i64 a0_6, .int .i64 a0_7, .int .i64 a0_8]] w fun e w' => ∃ v6_ : Value, e = .returned (.agg #[.int .i64 r1, .string r2, .int .i64 r3, .int .i64 r4, .bool r5, .string r6, v6_, .int .i64 r8, .int .i64 r9]) ∧ Kd.R k29 29 w' w.heap.size (fun _ => True) v6_ r7 ∧ Below w.heap.size w w' := by
 have hu32 := Tryd.underlying32
 have hu101 := Tryd.underlying101
 have hu29 := Tryd.underlying29
 have hu99 := Tryd.underlying99
 have HR0_4 := Aside0.mk hr0_4
 have HC0_4 := Aside0.mk hc0_4
 clear hr0_4 hc0_4
 have HB := Aside0.mk (Below.refl w.heap.size w)
 have H : ((slices_Clone_impl_Key_impl_Key.f l0_4).bind fun t346 => (some (a0_0, a0_1, a0_8, a0_7, a0_2, a0_3, t346, a0_5, a0_6))) = some (r1, r2, r3, r4, r5, r6, r7, r8, r9) := h
 clear h
 replace H := Option.bind_eq_some_iff.mp H
 obtain ⟨t346, A20, H⟩ := H
 replace H : (some (a0_0, a0_1, a0_8, a0_7, a0_2, a0_3, t346, a0_5, a0_6)) = some (r1, r2, r3, r4, r5, r6, r7, r8, r9) := H
 have A2 := Aside0.mk A20
 clear A20
 simp only [Option.some.injEq, Prod.mk.injEq] at H
 obtain ⟨rfl, rfl, rfl, rfl, rfl, rfl, rfl, rfl, rfl⟩ := H
 go_enter Tryd.func116, Tryd.ntmps116
 try go_wp2_with (first | ((with_reducible refine gate_dst (N := 1) rfl ?_); refine box_event ?hg (N := 1) ?hd (cs := #[.int .i64 a0_0, .string a0_1, .bool a0_2, .string a0_3, .slice A0_4 l0_4.length c0_4, .int .i64 a0_5, .int .i64 a0_6, .int .i64 a0_7, .int .i64 a0_8]) (t := 32) ?hr ?_; (case hd => rfl); (case hg => rfl); (case hr => first | (go_simp; done) | (go_simp; rfl)); intro gb344 hg w3 hbox hb; have hb1_ := fromQ HB.out hb; have hb0_ := below_step hb1_ hb; have hW_ := below_step HB.out hb1_; have n1_ := Aside0.mk (hbox); have n2_ := szle hg hW_; have n3_ := szle hg hW_; replace HB := kH HB hb0_; have BK344 := n1_; have GW344 := n2_; have GE344 := n3_; clear hb1_ hb0_ hW_ n1_ n2_ n3_; clear hb hbox hg) | ((with_reducible refine gate_dst (N := 2) rfl ?_); refine box_event ?hg (N := 2) ?hd (cs := #[.int .i64 0, .string (⟨#[]⟩ : ByteArray), .int .i64 0, .int .i64 0, .bool false, .string (⟨#[]⟩ : ByteArray), .slice none 0 0, .int .i64 0, .int .i64 0]) (t := 101) ?hr ?_; (case hd => rfl); (case hg => rfl); (case hr => first | (go_simp; done) | (go_simp; rfl)); intro gb345 hg w4 hbox hb; have hb1_ := fromQ HB.out hb; have hb0_ := below_step hb1_ hb; have hW_ := below_step HB.out hb1_; have n2_ := Aside0.mk (hbox); have n3_ := szle hg hW_; have n4_ := szle hg hW_; have n5_ := nelt hg BK344 hb1_; have n6_ := negt hg BK344 hb1_; replace BK344 := kB BK344 hb0_; replace HB := kH HB hb0_; have BK345 := n2_; have GW345 := n3_; have GE345 := n4_; have NB344_345 := n5_; have NB345_344 := n6_; clear hb1_ hb0_ hW_ n2_ n3_ n4_ n5_ n6_; clear hb hbox hg))
 have n0_ := Aside0.mk (blk_drew BK344.out)
 have n1_ := Aside0.mk (blk_drew BK345.out)
 have n2_ := Aside0.mk (below_drew1 HB.out)
 clear BK344
 clear BK345
 clear HB
 have BK344 := n0_
 have BK345 := n1_
 have HB := n2_
 clear n0_ n1_ n2_
 refine start_ (n := 20) (S := fun w' => w'.cell? ⟨gb344, 0, none⟩ = some (.int .i64 a0_0) ∧ w'.cell? ⟨gb344, 1, none⟩ = some (.string a0_1) ∧ w'.cell? ⟨gb344, 2, none⟩ = some (.bool a0_2) ∧ w'.cell? ⟨gb344, 3, none⟩ = some (.string a0_3) ∧ w'.cell? ⟨gb344, 4, none⟩ = some (.slice A0_4 l0_4.length c0_4) ∧ w'.cell? ⟨gb344, 5, none⟩ = some (.int .i64 a0_5) ∧ w'.cell? ⟨gb344, 6, none⟩ = some (.int .i64 a0_6) ∧ w'.cell? ⟨gb344, 7, none⟩ = some (.int .i64 a0_7) ∧ w'.cell? ⟨gb344, 8, none⟩ = some (.int .i64 a0_8)) (ds := []) #[false, false, false, false, false, false, false, false, false, false, false, false, false, false, false, false, false, false, false, false] (by kernel_rfl) rfl rfl ⟨(blk_cell BK344.out 0).trans rfl, (blk_cell BK344.out 1).trans rfl, (blk_cell BK344.out 2).trans rfl, (blk_cell BK344.out 3).trans rfl, (blk_cell BK344.out 4).trans rfl, (blk_cell BK344.out 5).trans rfl, (blk_cell BK344.out 6).trans rfl, (blk_cell BK344.out 7).trans rfl, (blk_cell BK344.out 8).trans rfl⟩ (fun hHeld => ?_); refine with_tabW impl_rowOf.tab1 impl_rowOf.bits1 (fun HT_ HW_ => ?_)
 generalize w4.drew = w5 at BK344 BK345 HB hHeld ⊢
 refine pureY (i := 0) (N := some 3) (v := ?_) (a' := ?_) #[true, false, false, false, false, false, false, false, false, false, false, false, false, false, false, false, false, false, false, false] rfl rfl (any_of HT_.out (by kernel_rfl)) ⟨by rfl, ?_⟩ ?_ ?_
 rotate_left
 · intro w'
   go_simp
   with_reducible rfl
 rotate_left
 · simp only [Act.put, sA_, i64_w, i32_w]
   rfl
 refine pureY (i := 2) (N := some 5) (v := ?_) (a' := ?_) #[true, false, true, false, false, false, false, false, false, false, false, false, false, false, false, false, false, false, false, false] rfl rfl (any_of HT_.out (by kernel_rfl)) ⟨by rfl, ?_⟩ ?_ ?_
 rotate_left
 · intro w'
   go_simp
   with_reducible rfl
 rotate_left
 · simp only [Act.put, sA_, i64_w, i32_w]
   rfl
 refine pureY (i := 5) (N := some 8) (v := ?_) (a' := ?_) #[true, false, true, false, false, true, false, false, false, false, false, false, false, false, false, false, false, false, false, false] rfl rfl (any_of HT_.out (by kernel_rfl)) ⟨by rfl, ?_⟩ ?_ ?_
 rotate_left
 · intro w'
   go_simp
   with_reducible rfl
 rotate_left
 · simp only [Act.put, sA_, i64_w, i32_w]
   rfl
 refine pureY (i := 7) (N := some 10) (v := ?_) (a' := ?_) #[true, false, true, false, false, true, false, true, false, false, false, false, false, false, false, false, false, false, false, false] rfl rfl (any_of HT_.out (by kernel_rfl)) ⟨by rfl, ?_⟩ ?_ ?_
 rotate_left
 · intro w'
   go_simp
   with_reducible rfl
 rotate_left
 · simp only [Act.put, sA_, i64_w, i32_w]
   rfl
 refine pureY (i := 9) (N := some 12) (v := ?_) (a' := ?_) #[true, false, true, false, false, true, false, true, false, true, false, false, false, false, false, false, false, false, false, false] rfl rfl (any_of HT_.out (by kernel_rfl)) ⟨by rfl, ?_⟩ ?_ ?_
 rotate_left
 · intro w'
   go_simp
   with_reducible rfl
 rotate_left
 · simp only [Act.put, sA_, i64_w, i32_w]
   rfl
 refine pureY (i := 11) (N := some 14) (v := ?_) (a' := ?_) #[true, false, true, false, false, true, false, true, false, true, false, true, false, false, false, false, false, false, false, false] rfl rfl (any_of HT_.out (by kernel_rfl)) ⟨by rfl, ?_⟩ ?_ ?_
 rotate_left
 · intro w'
   go_simp
   with_reducible rfl
 rotate_left
 · simp only [Act.put, sA_, i64_w, i32_w]
   rfl
 refine pureY (i := 14) (N := some 17) (v := ?_) (a' := ?_) #[true, false, true, false, false, true, false, true, false, true, false, true, false, false, true, false, false, false, false, false] rfl rfl (any_of HT_.out (by kernel_rfl)) ⟨by rfl, ?_⟩ ?_ ?_
 rotate_left
 · intro w'
   go_simp
   with_reducible rfl
 rotate_left
 · simp only [Act.put, sA_, i64_w, i32_w]
   rfl
 refine pureY (i := 16) (N := some 19) (v := ?_) (a' := ?_) #[true, false, true, false, false, true, false, true, false, true, false, true, false, false, true, false, true, false, false, false] rfl rfl (any_of HT_.out (by kernel_rfl)) ⟨by rfl, ?_⟩ ?_ ?_
 rotate_left
 · intro w'
   go_simp
   with_reducible rfl
 rotate_left
 · simp only [Act.put, sA_, i64_w, i32_w]
   rfl
 refine takeY (i := 1) (N := some 4) (v := ?_) (a' := ?_) #[true, true, true, false, false, true, false, true, false, true, false, true, false, false, true, false, true, false, false, false] rfl rfl (take_ofW HT_.out HW_.out (by kernel_rfl)) ⟨by rfl, ?_⟩ hHeld ?_ ?_
 rotate_left
 · rintro w' ⟨s0, s1, s2, s3, s4, s5, s6, s7, s8⟩
   go_simp
   with_reducible rfl
 rotate_left
 · simp only [Act.put, sA_, i64_w, i32_w]
   rfl
 refine takeY (i := 3) (N := some 6) (v := ?_) (a' := ?_) #[true, true, true, true, false, true, false, true, false, true, false, true, false, false, true, false, true, false, false, false] rfl rfl (take_ofW HT_.out HW_.out (by kernel_rfl)) ⟨by rfl, ?_⟩ hHeld ?_ ?_
 rotate_left
 · rintro w' ⟨s0, s1, s2, s3, s4, s5, s6, s7, s8⟩
   go_simp
   with_reducible rfl
 rotate_left
 · simp only [Act.put, sA_, i64_w, i32_w]
   rfl
 refine pureY (i := 4) (N := some 7) (v := ?_) (a' := ?_) #[true, true, true, true, true, true, false, true, false, true, false, true, false, false, true, false, true, false, false, false] rfl rfl (any_of HT_.out (by kernel_rfl)) ⟨by rfl, ?_⟩ ?_ ?_
 rotate_left
 · intro w'
   go_simp
   with_reducible rfl
 rotate_left
 · simp only [Act.put, sA_, i64_w, i32_w]
   rfl
 refine takeY (i := 6) (N := some 9) (v := ?_) (a' := ?_) #[true, true, true, true, true, true, true, true, false, true, false, true, false, false, true, false, true, false, false, false] rfl rfl (take_ofW HT_.out HW_.out (by kernel_rfl)) ⟨by rfl, ?_⟩ hHeld ?_ ?_
 rotate_left
 · rintro w' ⟨s0, s1, s2, s3, s4, s5, s6, s7, s8⟩
   go_simp
   with_reducible rfl
 rotate_left
 · simp only [Act.put, sA_, i64_w, i32_w]
   rfl
 refine takeY (i := 8) (N := some 11) (v := ?_) (a' := ?_) #[true, true, true, true, true, true, true, true, true, true, false, true, false, false, true, false, true, false, false, false] rfl rfl (take_ofW HT_.out HW_.out (by kernel_rfl)) ⟨by rfl, ?_⟩ hHeld ?_ ?_
 rotate_left
 · rintro w' ⟨s0, s1, s2, s3, s4, s5, s6, s7, s8⟩
   go_simp
   with_reducible rfl
 rotate_left
 · simp only [Act.put, sA_, i64_w, i32_w]
   rfl
 refine takeY (i := 10) (N := some 13) (v := ?_) (a' := ?_) #[true, true, true, true, true, true, true, true, true, true, true, true, false, false, true, false, true, false, false, false] rfl rfl (take_ofW HT_.out HW_.out (by kernel_rfl)) ⟨by rfl, ?_⟩ hHeld ?_ ?_
 rotate_left
 · rintro w' ⟨s0, s1, s2, s3, s4, s5, s6, s7, s8⟩
   go_simp
   with_reducible rfl
 rotate_left
 · simp only [Act.put, sA_, i64_w, i32_w]
   rfl
 refine takeY (i := 12) (N := some 15) (v := ?_) (a' := ?_) #[true, true, true, true, true, true, true, true, true, true, true, true, true, false, true, false, true, false, false, false] rfl rfl (take_ofW HT_.out HW_.out (by kernel_rfl)) ⟨by rfl, ?_⟩ hHeld ?_ ?_
 rotate_left
 · rintro w' ⟨s0, s1, s2, s3, s4, s5, s6, s7, s8⟩
   go_simp
   with_reducible rfl
 rotate_left
 · simp only [Act.put, sA_, i64_w, i32_w]
   rfl
 refine takeY (i := 15) (N := some 18) (v := ?_) (a' := ?_) #[true, true, true, true, true, true, true, true, true, true, true, true, true, false, true, true, true, false, false, false] rfl rfl (take_ofW HT_.out HW_.out (by kernel_rfl)) ⟨by rfl, ?_⟩ hHeld ?_ ?_
 rotate_left
 · rintro w' ⟨s0, s1, s2, s3, s4, s5, s6, s7, s8⟩
   go_simp
   with_reducible rfl
 rotate_left
 · simp only [Act.put, sA_, i64_w, i32_w]
   rfl
 refine takeY (i := 17) (N := some 20) (v := ?_) (a' := ?_) #[true, true, true, true, true, true, true, true, true, true, true, true, true, false, true, true, true, true, false, false] rfl rfl (take_ofW HT_.out HW_.out (by kernel_rfl)) ⟨by rfl, ?_⟩ hHeld ?_ ?_
 rotate_left
 · rintro w' ⟨s0, s1, s2, s3, s4, s5, s6, s7, s8⟩
   go_simp
   with_reducible rfl
 rotate_left
 · simp only [Act.put, sA_, i64_w, i32_w]
   rfl
 refine one_ (i := 13) (N := some 16) #[true, true, true, true, true, true, true, true, true, true, true, true, true, true, true, true, true, true, false, false] rfl rfl (one_of HT_.out (by kernel_rfl)) (by decide) (fun K hK => ?_)
 refine goes_ Tryd.func118 (by kernel_rfl) rfl #[.slice A0_4 l0_4.length c0_4] (by rfl) rfl rfl (by (try simp only [List.map_toArray, List.map_cons, List.map_nil]); first | done | rfl | (simp only [List.length_drop, List.length_take]; rfl)) ?_
 with_reducible refine (slices_Clone_impl_Key_impl_Key.calls _ _ l0_4 t346 _ ?side1 ?side2 A2.out).mono ?_
 (case side1 => repeat (first | exact (Kd.C_below HR0_4.out HB.out) | (with_reducible refine Kd.C_alloc ?_ _) | (with_reducible refine Kd.C_drewN ?_ _) | (with_reducible refine Kd.C_drew ?_)))
 (case side2 => exact HC0_4.out)
 rintro e w6 ⟨v347, rfl, ho0, hb⟩
 refine ⟨_, rfl, ?_⟩
 have hb1_ := fromQ HB.out hb
 have hb0_ := below_step hb1_ hb
 have hW_ := below_step HB.out hb1_
 have n0_ := Aside0.mk (Kd.R_lower ho0 (below_size hW_))
 replace BK344 := kB BK344 hb0_
 replace BK345 := kB BK345 hb0_
 replace HB := kH HB hb0_
 have HO348 := n0_
 clear hb1_ hb0_ hW_ n0_
 (try clear hb)
 (try clear hb2)
 (try clear hk)
 (try clear hi)
 (try clear ho0)
 obtain ⟨Ao7, co7, eo7⟩ := Kd.R_slice HO348.out
 (first | subst eo7 | (injection eo7 with f1_ f2_ f3_; have f4_ := f1_.symm; have f5_ := f3_.symm; clear f1_ f2_ f3_; subst f4_; subst f5_))
 refine hK.out _ _ ⟨(blk_cell BK344.out 0).trans rfl, (blk_cell BK344.out 1).trans rfl, (blk_cell BK344.out 2).trans rfl, (blk_cell BK344.out 3).trans rfl, (blk_cell BK344.out 4).trans rfl, (blk_cell BK344.out 5).trans rfl, (blk_cell BK344.out 6).trans rfl, (blk_cell BK344.out 7).trans rfl, (blk_cell BK344.out 8).trans rfl⟩ (fun hHeld => ?_)
 clear hK K
 refine norm_ (a' := ?_) ?_ ?_
 rotate_left
 · show Act.put _ (some 16) _ = _
   simp only [Act.put, sA_, i64_w, i32_w]
   rfl
 refine pureY (i := 18) (N := some 21) (v := ?_) (a' := ?_) #[true, true, true, true, true, true, true, true, true, true, true, true, true, true, true, true, true, true, true, false] rfl rfl (any_of HT_.out (by kernel_rfl)) ⟨by rfl, ?_⟩ ?_ ?_
 rotate_left
 · intro w'
   go_simp
   with_reducible rfl
 rotate_left
 · simp only [Act.put, sA_, i64_w, i32_w]
   rfl
 refine one_ (i := 19) (N := none) #[true, true, true, true, true, true, true, true, true, true, true, true, true, true, true, true, true, true, true, true] rfl rfl (one_of HT_.out (by kernel_rfl)) (by decide) (fun K hK => ?_)
 have hs8 : w6.cell? ⟨gb345, 0, none⟩ = some (.int .i64 0) := (blk_cell BK345.out 0).trans rfl
 have hfs8 := blk_frozen BK345.out 0
 have hns8_0 := NB344_345.out
 have hms8_0 := NB345_344.out
 have hs9 : w6.cell? ⟨gb345, 1, none⟩ = some (.string (⟨#[]⟩ : ByteArray)) := (blk_cell BK345.out 1).trans rfl
 have hfs9 := blk_frozen BK345.out 1
 have hs10 : w6.cell? ⟨gb345, 2, none⟩ = some (.int .i64 0) := (blk_cell BK345.out 2).trans rfl
 have hfs10 := blk_frozen BK345.out 2
 have hs11 : w6.cell? ⟨gb345, 3, none⟩ = some (.int .i64 0) := (blk_cell BK345.out 3).trans rfl
 have hfs11 := blk_frozen BK345.out 3
 have hs12 : w6.cell? ⟨gb345, 4, none⟩ = some (.bool false) := (blk_cell BK345.out 4).trans rfl
 have hfs12 := blk_frozen BK345.out 4
 have hs13 : w6.cell? ⟨gb345, 5, none⟩ = some (.string (⟨#[]⟩ : ByteArray)) := (blk_cell BK345.out 5).trans rfl
 have hfs13 := blk_frozen BK345.out 5
 have hs14 : w6.cell? ⟨gb345, 6, none⟩ = some (.slice none 0 0) := (blk_cell BK345.out 6).trans rfl
 have hfs14 := blk_frozen BK345.out 6
 have hs15 : w6.cell? ⟨gb345, 7, none⟩ = some (.int .i64 0) := (blk_cell BK345.out 7).trans rfl
 have hfs15 := blk_frozen BK345.out 7
 have hs16 : w6.cell? ⟨gb345, 8, none⟩ = some (.int .i64 0) := (blk_cell BK345.out 8).trans rfl
 have hfs16 := blk_frozen BK345.out 8
 refine skip_ (w1 := ?_) (by rfl) rfl ?_ ?_
 rotate_left
 · go_simp
   rfl
 refine hK.out _ _ ⟨(cell_far9 NB344_345.out).trans hHeld.1, (cell_far9 NB344_345.out).trans hHeld.2.1, (cell_far9 NB344_345.out).trans hHeld.2.2.1, (cell_far9 NB344_345.out).trans hHeld.2.2.2.1, (cell_far9 NB344_345.out).trans hHeld.2.2.2.2.1, (cell_far9 NB344_345.out).trans hHeld.2.2.2.2.2.1, (cell_far9 NB344_345.out).trans hHeld.2.2.2.2.2.2.1, (cell_far9 NB344_345.out).trans hHeld.2.2.2.2.2.2.2.1, (cell_far9 NB344_345.out).trans hHeld.2.2.2.2.2.2.2.2⟩ (fun hHeld => ?_)
 clear hK K
 refine done_ (done_of HT_.out (by kernel_rfl)) ?_
 try go_wp2
 refine bodyPost_ret (results_cell_row rfl _ _ gb345 101 #[.int .i64 a0_0, .string a0_1, .int .i64 a0_8, .int .i64 a0_7, .bool a0_2, .string a0_3, .slice Ao7 t346.length co7, .int .i64 a0_5, .int .i64 a0_6] (0, 0) _ rfl (by (with_reducible repeat (first | refine blk_drewN ?_ _ | refine blk_drew ?_ | refine blk_alloc ?_ _)); apply blk_stores9; (with_reducible repeat (first | refine blk_drewN ?_ _ | refine blk_drew ?_ | refine blk_alloc ?_ _)); exact BK345.out) Tryd.underlying101 rfl (by kernel_rfl)) rfl ?_
 exact ⟨_, by first | rfl | (simp [errW_none, errW_some] <;> rfl) | (simp [*, errW_none, errW_some] <;> rfl), by (with_reducible repeat (first | apply Kd.R_alloc | apply Kd.R_drewN | apply Kd.R_drew)); exact Kd.R_mono (R_far9 (g := gb345) (Kd.R_types HO348.out BK345.out (by decide)) (fun _ hk => hk.2)) (fun _ hk => trivial), by repeat (first | (with_reducible first | exact HB.out | apply below_alloc | apply pw_below_drewN | apply below_drew1 | refine below_set ?_ GE344.out | refine below_set ?_ GE345.out) | exact HB.out)⟩
theorem rd_mem_sl (l : List S32) {k : Nat} (h : k < l.length) : rd_T32 l k ∈ l := by
 unfold rd_T32
 rw [Int.toNat_natCast, List.getD_eq_getElem?_getD, List.getElem?_eq_getElem h]
 exact List.getElem_mem h
def rowS (s : S32) : RwT := ⟨⟨s.f0, s.f7⟩, s.f6, s.f1, s.f2, s.f3, s.f4, s.f5⟩
theorem take_sl (l : List S32) (k : Nat) (h : k < l.length) : (l.take (k + 1)).map rowS = (l.take k).map rowS ++ [rowS (rd_T32 l k)] := by
 rw [List.take_succ_eq_append_getElem h, List.map_append]
 unfold rd_T32
 rw [Int.toNat_natCast, List.getD_eq_getElem?_getD, List.getElem?_eq_getElem h]
 rfl
theorem infoRow : (Tryd.prog.info? 101).map (fun i => (i.zero, i.size, i.bytes)) = some (some (.agg #[(.int .i64 0), (.string ⟨#[]⟩), (.int .i64 0), (.int .i64 0), (.bool false), (.string ⟨#[]⟩), (.slice none 0 0), (.int .i64 0), (.int .i64 0)]), 9, 104) := by kernel_rfl
structure RowsAt (w0 W : World) (g : Nat) (l : List RwT) : Prop where
 hg : ∃ v, W.heap[g]? = some (.cells #[v, .func (.func 150) #[] #[], .func (.func 97) #[] #[]] 97 (0, 0)) ∧ Kd.S k101 101 W w0.heap.size (fun _ => True) v l
 le : w0.heap.size ≤ g
 bel : Below w0.heap.size w0 W
theorem RowsAt.ord {w0 W : World} {g : Nat} {l : List RwT} (h : RowsAt w0 W g l) : ∃ A c, OrdAt W g A c l := by
 obtain ⟨v, hv, hs⟩ := h.hg
 obtain ⟨A, c, rfl⟩ := Kd.S_slice hs
 exact ⟨A, c, (blk_cell hv 0).trans rfl, (blk_cell hv 1).trans rfl, (blk_cell hv 2).trans rfl, (Kd.S_reads' hs).2.2⟩
theorem RowsAt.keep {w0 W W1 : World} {g : Nat} {l : List RwT} (h : RowsAt w0 W g l) (b : Below W.heap.size W W1) : RowsAt w0 W1 g l := by
 obtain ⟨v, hv, hs⟩ := h.hg
 exact ⟨⟨v, blk_below hv b, Kd.S_below hs b⟩, h.le, below_step h.bel b⟩
set_option maxHeartbeats 4000000 in
set_option maxRecDepth 100000 in
theorem impl_Table_rows.newRows (w : World) : Calls Tryd.prog 115 #[] w fun e w' => ∃ g, e = .returned (.pointer (some ⟨g, 0, none⟩)) ∧ w.heap.size ≤ g ∧ w'.heap[g]? = some (.cells #[.slice none 0 0, .func (.func 150) #[] #[], .func (.func 97) #[] #[]] 97 (0, 0)) ∧ Below w.heap.size w w' := by
 have hu4 := Tryd.underlying95
 have hu5 := Tryd.underlying97
 go_enter Tryd.func115, Tryd.ntmps115
 go_wp2
 go_ret
 exact ⟨_, rfl, Nat.le_refl _, blk_new _ _, below_alloc (Below.refl _ _) _⟩
def impl_Table_rows.f (l0 : List S32) : Option (List RwT) := if l0.length ≤ 4096 ∧ ∀ s ∈ l0, s.f3.length < 4398046511104 then some (l0.map rowS) else none
set_option maxHeartbeats 16000000 in
set_option maxRecDepth 100000 in
theorem impl_Table_rows.rows (A0 : Option Addr) (c0 : Nat) (l0 : List S32) (r : List RwT) (w : World) (hr0 : Kd.C k32 w A0 l0.length l0) (h : impl_Table_rows.f l0 = some r) :
 Calls Tryd.prog 58 #[.agg #[.slice A0 l0.length c0]] w fun e w' => ∃ g, e = .returned (.pointer (some ⟨g, 0, none⟩)) ∧ RowsAt w w' g r := by
 have hu1 := Tryd.underlying101
 have hu2 := Tryd.underlying32
 have hu3 := Tryd.underlying36
 have hu4 := Tryd.underlying95
 have hu5 := Tryd.underlying97
 have hu6 := Tryd.underlying29
 unfold impl_Table_rows.f at h
 by_cases gd : l0.length ≤ 4096 ∧ ∀ s ∈ l0, s.f3.length < 4398046511104
 case neg => rw [if_neg gd] at h; cases h
 rw [if_pos gd] at h
 obtain rfl := Option.some.inj h
 have G := Aside0.mk gd
 have HR := Aside0.mk hr0
 clear gd h hr0
 go_enter Tryd.func58, Tryd.ntmps58
 go_wp2_with (go_at_call 115; refine (impl_Table_rows.newRows _).mono ?_; rintro e w6 ⟨g, rfl, hle, hg, hb⟩; have HB6 : Aside0 (Below w.heap.size w w6) := ⟨below_step (by repeat (first | exact Below.refl _ _ | apply below_alloc)) hb⟩; have HG6 := Aside0.mk hg; have LE6 : Aside0 (w.heap.size ≤ g) := ⟨Nat.le_trans (by simp) hle⟩; have hct : w6.cell? ⟨w.heap.size, 0, none⟩ = some (.slice A0 l0.length c0) := pw_cell_below hb ((blk_cell (blk_new w _) 0).trans rfl); clear hb hg hle)
 go_loopw [10] (fun i wr => ∃ k : Nat, k ≤ l0.length ∧ i = .int .i64 k ∧ Aside0 (RowsAt w wr g ((l0.take k).map rowS))) (fun i _ => l0.length - (intOf i).toNat)
 case atStart => exact ⟨0, Nat.zero_le _, rfl, ⟨⟨_, HG6.out, ⟨fun _ => 0, Kd.R_nil _ _ _ _ _⟩⟩, LE6.out, HB6.out⟩⟩
 case round =>
  clear HG6 hct
  obtain ⟨k, hk, rfl, HA⟩ := hrel
  by_cases hlt : k < l0.length
  ·
   have p0 : 0 ≤ (k : Int) := by omega
   have q0 : (k : Int) < (l0.length : Int) := by omega
   have ql : decide (k < l0.length) = true := decide_eq_true hlt
   obtain ⟨ad, A4, c4, eA, hx0, hx1, hx2, hx3, hx4, hx5, hx6, hx7, hx8, hc4, hC4⟩ := at_T32 HR.out k p0 q0
   cases eA
   rw [Int.toNat_natCast] at hx0 hx1 hx2 hx3 hx4 hx5 hx6 hx7 hx8
   replace hx0 := (HA.out.bel.cell (World.block_lt_of_cell? w _ hx0)).trans hx0
   replace hx1 := (HA.out.bel.cell (World.block_lt_of_cell? w _ hx1)).trans hx1
   replace hx2 := (HA.out.bel.cell (World.block_lt_of_cell? w _ hx2)).trans hx2
   replace hx3 := (HA.out.bel.cell (World.block_lt_of_cell? w _ hx3)).trans hx3
   replace hx4 := (HA.out.bel.cell (World.block_lt_of_cell? w _ hx4)).trans hx4
   replace hx5 := (HA.out.bel.cell (World.block_lt_of_cell? w _ hx5)).trans hx5
   replace hx6 := (HA.out.bel.cell (World.block_lt_of_cell? w _ hx6)).trans hx6
   replace hx7 := (HA.out.bel.cell (World.block_lt_of_cell? w _ hx7)).trans hx7
   replace hx8 := (HA.out.bel.cell (World.block_lt_of_cell? w _ hx8)).trans hx8
   have hg4 : (rd_T32 l0 (k : Int)).f3.length < 4398046511104 := G.out.2 _ (rd_mem_sl l0 hlt)
   have HD := Aside0.mk (take_sl l0 k hlt)
   have HLen := Aside0.mk (show ((l0.take k).map rowS).length ≤ 4096 by rw [List.length_map, List.length_take]; have := G.out.1; omega)
   obtain ⟨L, hL⟩ : ∃ L, L = (l0.take k).map rowS := ⟨_, rfl⟩
   rw [← hL] at HA HD HLen
   clear hL
   obtain ⟨s, hs⟩ : ∃ s, s = rd_T32 l0 (k : Int) := ⟨_, rfl⟩
   rw [← hs] at hx0 hx1 hx2 hx3 hx4 hx5 hx6 hx7 hx8 hC4 hc4 hg4 HD
   clear hs
   have HC4 := Aside0.mk hC4
   have HG4 := Aside0.mk hg4
   have Hc4 := Aside0.mk hc4
   clear hC4 hg4 hc4
   have HF := Aside0.mk (show impl_rowOf.f s.f0.f0 s.f0.f1 s.f1 s.f2 s.f3 s.f4 s.f5 s.f6 s.f7 = some (s.f0.f0, s.f0.f1, s.f7, s.f6, s.f1, s.f2, s.f3, s.f4, s.f5) by unfold impl_rowOf.f slices_Clone_impl_Key_impl_Key.f; rw [if_pos HG4.out]; rfl)
   go_wp2
   obtain ⟨W2, hW2⟩ : ∃ W2 : World, W2 = wr.alloc (.cells #[.int .i64 s.f0.f0, .string s.f0.f1, .bool s.f1, .string s.f2, .slice A4 s.f3.length c4, .int .i64 s.f4, .int .i64 s.f5, .int .i64 s.f6, .int .i64 s.f7] 32) := ⟨_, rfl⟩
   rw [← hW2]
   have hb2 : Below wr.heap.size wr W2 := by rw [hW2]; exact below_alloc (Below.refl _ _) _
   have hx9 : W2.heap[wr.heap.size]? = some (.cells #[.int .i64 s.f0.f0, .string s.f0.f1, .bool s.f1, .string s.f2, .slice A4 s.f3.length c4, .int .i64 s.f4, .int .i64 s.f5, .int .i64 s.f6, .int .i64 s.f7] 32 (0, 0)) := by rw [hW2]; exact blk_new _ _
   clear hW2
   have HA2 := Aside0.mk (HA.out.keep hb2)
   have HC2 := Aside0.mk (Kd.C_below HC4.out (below_step HA.out.bel hb2))
   have HX9 := Aside0.mk hx9
   clear hx9 hb2 hx0 hx1 hx2 hx3 hx4 hx5 hx6 hx7 hx8
   obtain ⟨v, hv, hs2⟩ := HA2.out.hg
   obtain ⟨A, c, rfl⟩ := Kd.S_slice hs2
   have HV := Aside0.mk hv
   have HS2 := Aside0.mk hs2
   clear hv hs2
   refine start_ (n := 14) (S := fun w' => w'.cell? ⟨g, 0, none⟩ = some (.slice A L.length c) ∧ w'.cell? ⟨wr.heap.size, 0, none⟩ = some (.int .i64 s.f0.f0) ∧ w'.cell? ⟨wr.heap.size, 1, none⟩ = some (.string s.f0.f1) ∧ w'.cell? ⟨wr.heap.size, 2, none⟩ = some (.bool s.f1) ∧ w'.cell? ⟨wr.heap.size, 3, none⟩ = some (.string s.f2) ∧ w'.cell? ⟨wr.heap.size, 4, none⟩ = some (.slice A4 s.f3.length c4) ∧ w'.cell? ⟨wr.heap.size, 5, none⟩ = some (.int .i64 s.f4) ∧ w'.cell? ⟨wr.heap.size, 6, none⟩ = some (.int .i64 s.f5) ∧ w'.cell? ⟨wr.heap.size, 7, none⟩ = some (.int .i64 s.f6) ∧ w'.cell? ⟨wr.heap.size, 8, none⟩ = some (.int .i64 s.f7)) (ds := [9, 13]) #[false, false, false, false, false, false, false, false, false, false, false, false, false, false] (by kernel_rfl) rfl rfl ⟨(blk_cell HV.out 0).trans rfl, (blk_cell HX9.out 0).trans rfl, (blk_cell HX9.out 1).trans rfl, (blk_cell HX9.out 2).trans rfl, (blk_cell HX9.out 3).trans rfl, (blk_cell HX9.out 4).trans rfl, (blk_cell HX9.out 5).trans rfl, (blk_cell HX9.out 6).trans rfl, (blk_cell HX9.out 7).trans rfl, (blk_cell HX9.out 8).trans rfl⟩ (fun hHeld => ?_)
   refine pureY (i := 0) (N := some 14) (v := ?_) (a' := ?_) #[true, false, false, false, false, false, false, false, false, false, false, false, false, false] rfl rfl (by kernel_rfl) ⟨by rfl, ?_⟩ ?_ ?_
   rotate_left
   · intro w'
     go_simp
     with_reducible rfl
   rotate_left
   · simp only [Act.put, sA_, i64_w, i32_w]
     rfl
   refine pureY (i := 1) (N := some 15) (v := ?_) (a' := ?_) #[true, true, false, false, false, false, false, false, false, false, false, false, false, false] rfl rfl (by kernel_rfl) ⟨by rfl, ?_⟩ ?_ ?_
   rotate_left
   · intro w'
     go_simp
     with_reducible rfl
   rotate_left
   · simp only [Act.put, sA_, i64_w, i32_w]
     rfl
   refine pureY (i := 2) (N := some 16) (v := ?_) (a' := ?_) #[true, true, true, false, false, false, false, false, false, false, false, false, false, false] rfl rfl (by kernel_rfl) ⟨by rfl, ?_⟩ ?_ ?_
   rotate_left
   · intro w'
     go_simp
     with_reducible rfl
   rotate_left
   · simp only [Act.put, sA_, i64_w, i32_w]
     rfl
   refine pureY (i := 3) (N := some 17) (v := ?_) (a' := ?_) #[true, true, true, true, false, false, false, false, false, false, false, false, false, false] rfl rfl (by kernel_rfl) ⟨by rfl, ?_⟩ ?_ ?_
   rotate_left
   · intro w'
     go_simp
     with_reducible rfl
   rotate_left
   · simp only [Act.put, sA_, i64_w, i32_w]
     rfl
   refine pureY (i := 4) (N := some 18) (v := ?_) (a' := ?_) #[true, true, true, true, true, false, false, false, false, false, false, false, false, false] rfl rfl (by kernel_rfl) ⟨by rfl, ?_⟩ ?_ ?_
   rotate_left
   · intro w'
     go_simp
     with_reducible rfl
   rotate_left
   · simp only [Act.put, sA_, i64_w, i32_w]
     rfl
   refine takeY (i := 5) (N := some 19) (v := ?_) (a' := ?_) #[true, true, true, true, true, true, false, false, false, false, false, false, false, false] rfl rfl (by kernel_rfl) ⟨by rfl, ?_⟩ hHeld ?_ ?_
   rotate_left
   · rintro w' ⟨s0, s1, s2, s3, s4, s5, s6, s7, s8, s9⟩
     go_simp
     with_reducible rfl
   rotate_left
   · simp only [Act.put, sA_, i64_w, i32_w]
     rfl
   refine takeY (i := 6) (N := some 20) (v := ?_) (a' := ?_) #[true, true, true, true, true, true, true, false, false, false, false, false, false, false] rfl rfl (by kernel_rfl) ⟨by rfl, ?_⟩ hHeld ?_ ?_
   rotate_left
   · rintro w' ⟨s0, s1, s2, s3, s4, s5, s6, s7, s8, s9⟩
     go_simp
     with_reducible rfl
   rotate_left
   · simp only [Act.put, sA_, i64_w, i32_w]
     rfl
   refine one_ (i := 7) (N := some 21) #[true, true, true, true, true, true, true, true, false, false, false, false, false, false] rfl rfl (by kernel_rfl) (by decide) (fun K hK => ?_)
   refine goes_ Tryd.func116 rfl rfl #[.agg #[.int .i64 s.f0.f0, .string s.f0.f1, .bool s.f1, .string s.f2, .slice A4 s.f3.length c4, .int .i64 s.f4, .int .i64 s.f5, .int .i64 s.f6, .int .i64 s.f7]] rfl rfl rfl (by (try simp only [List.map_toArray, List.map_cons, List.map_nil, List.append_toArray, List.append_nil, List.nil_append, List.cons_append]); rfl) ?_
   refine (impl_rowOf.calls s.f0.f0 s.f0.f1 s.f1 s.f2 A4 c4 s.f3 s.f4 s.f5 s.f6 s.f7 _ _ _ _ _ _ _ _ _ _ (Kd.C_drew HC2.out) Hc4.out HF.out).mono ?_
   rintro e w7 ⟨v7, rfl, ho7, hb7⟩
   obtain ⟨A7, c7, rfl⟩ := Kd.R_slice ho7
   refine ⟨_, rfl, ?_⟩
   refine hK.out _ _ ⟨pw_cell_below hb7 hHeld.1, pw_cell_below hb7 hHeld.2.1, pw_cell_below hb7 hHeld.2.2.1, pw_cell_below hb7 hHeld.2.2.2.1, pw_cell_below hb7 hHeld.2.2.2.2.1, pw_cell_below hb7 hHeld.2.2.2.2.2.1, pw_cell_below hb7 hHeld.2.2.2.2.2.2.1, pw_cell_below hb7 hHeld.2.2.2.2.2.2.2.1, pw_cell_below hb7 hHeld.2.2.2.2.2.2.2.2.1, pw_cell_below hb7 hHeld.2.2.2.2.2.2.2.2.2⟩ (fun hHeld => ?_)
   clear hK K
   refine norm_ (a' := ?_) ?_ ?_
   rotate_left
   · show Act.put _ (some 21) _ = _
     simp only [Act.put, sA_, i64_w, i32_w]
     rfl
   have HO7 := Aside0.mk ho7
   have HB7 := Aside0.mk hb7
   have HV7 := Aside0.mk (blk_below (blk_drew HV.out) hb7)
   have HS7 := Aside0.mk (Kd.S_elder' (Kd.S_drew HS2.out) (Kd.R_base ho7) hb7)
   have HBB := Aside0.mk (below_step (below_drew1 HA2.out.bel) hb7)
   have HSZ := Aside0.mk (Nat.le_trans (below_size (below_drew1 HA2.out.bel)) (below_size hb7))
   clear hb7 ho7
   refine one_ (i := 8) (N := some 22) #[true, true, true, true, true, true, true, true, true, false, false, false, false, false] rfl rfl (by kernel_rfl) (by decide) (fun K hK => ?_)
   refine value_ (v := .slice (some ⟨w7.heap.size, 0, none⟩) 1 1) (w1 := w7.alloc (.cells #[.int .i64 s.f0.f0, .string s.f0.f1, .int .i64 s.f7, .int .i64 s.f6, .bool s.f1, .string s.f2, .slice A7 s.f3.length c7, .int .i64 s.f4, .int .i64 s.f5] 101)) (by rfl) rfl ?_ ?_
   · go_simp
   refine hK.out _ _ ⟨pw_cell_below (below_alloc (Below.refl _ _) _) hHeld.1, pw_cell_below (below_alloc (Below.refl _ _) _) hHeld.2.1, pw_cell_below (below_alloc (Below.refl _ _) _) hHeld.2.2.1, pw_cell_below (below_alloc (Below.refl _ _) _) hHeld.2.2.2.1, pw_cell_below (below_alloc (Below.refl _ _) _) hHeld.2.2.2.2.1, pw_cell_below (below_alloc (Below.refl _ _) _) hHeld.2.2.2.2.2.1, pw_cell_below (below_alloc (Below.refl _ _) _) hHeld.2.2.2.2.2.2.1, pw_cell_below (below_alloc (Below.refl _ _) _) hHeld.2.2.2.2.2.2.2.1, pw_cell_below (below_alloc (Below.refl _ _) _) hHeld.2.2.2.2.2.2.2.2.1, pw_cell_below (below_alloc (Below.refl _ _) _) hHeld.2.2.2.2.2.2.2.2.2⟩ (fun hHeld => ?_)
   clear hK K
   refine norm_ (a' := ?_) ?_ ?_
   rotate_left
   · show Act.put _ (some 22) _ = _
     simp only [Act.put, sA_, i64_w, i32_w]
     rfl
   refine last_ (i := 9) (N := some 23) #[true, true, true, true, true, true, true, true, true, true, false, false, false, false] rfl rfl (by kernel_rfl) (by decide) (fun K hK => ?_)
   refine Kd.S_append_step k101 (w0 := w) (W := w7) w.heap.size (by rfl) (.tmp 19) (.tmp 22) 91 101 (.agg #[(.int .i64 0), (.string ⟨#[]⟩), (.int .i64 0), (.int .i64 0), (.bool false), (.string ⟨#[]⟩), (.slice none 0 0), (.int .i64 0), (.int .i64 0)]) 104 rfl Tryd.underlying91 infoRow rfl (by decide) (by omega) (.slice A L.length c) L (⟨⟨⟨s.f0.f0, s.f0.f1⟩, s.f7⟩, s.f6, s.f1, s.f2, s.f3, s.f4, s.f5⟩ : RwT) [.int .i64 s.f0.f0, .string s.f0.f1, .int .i64 s.f7, .int .i64 s.f6, .bool s.f1, .string s.f2, .slice A7 s.f3.length c7, .int .i64 s.f4, .int .i64 s.f5] (fun _ => True) (fun b => some b = (Value.slice A7 s.f3.length c7).ownBlock) rfl rfl (k101_mkM _ _ _ (⟨⟨⟨s.f0.f0, s.f0.f1⟩, s.f7⟩, s.f6, s.f1, s.f2, s.f3, s.f4, s.f5⟩ : RwT) (Kd.R_tight rfl (Kd.R_lower HO7.out (below_size (below_drew1 HA2.out.bel))))) (fun b hb => ⟨trivial, fun e => by have h1 := Kd.S_lt HS2.out b e.symm; have h2 := Kd.R_base HO7.out b hb.symm; exact absurd h1 (Nat.not_lt.2 h2)⟩) (fun _ _ => trivial) (Kd.S_mono HS7.out (fun b hb => ⟨trivial, fun e => hb.2 e⟩)) HBB.out HSZ.out (by have := HLen.out; omega) ?_
   intro v1 w1 hs1 hb1 hg1 _
   refine hK.out _ _ ?_
   clear hK K
   refine norm_ (a' := ?_) ?_ ?_
   rotate_left
   · show Act.put _ (some 23) _ = _
     simp only [Act.put, sA_, i64_w, i32_w]
     rfl
   have hv1 := blk_grown HV7.out hg1 (Kd.S_ne (Kd.S_mono HS7.out (fun _ _ => trivial) : Kd.S k101 101 w7 w.heap.size (fun _ => True) _ _) HV7.out (by decide))
   obtain ⟨A1, c1, rfl⟩ := Kd.S_slice hs1
   have hcv1 : w1.cell? ⟨g, 0, none⟩ = some (.slice A L.length c) := (blk_cell hv1 0).trans rfl
   have hfv1 := blk_frozen hv1 0
   have HS1 := Aside0.mk hs1
   have HV1 := Aside0.mk hv1
   have HB1 := Aside0.mk hb1
   clear hs1 hb1 hg1
   refine pureY (i := 10) (N := some 24) (v := ?_) (a' := ?_) #[true, true, true, true, true, true, true, true, true, true, true, false, false, false] rfl rfl (by kernel_rfl) ⟨by rfl, ?_⟩ ?_ ?_
   rotate_left
   · intro w'
     go_simp
     with_reducible rfl
   rotate_left
   · simp only [Act.put, sA_, i64_w, i32_w]
     rfl
   refine pureY (i := 11) (N := some 25) (v := ?_) (a' := ?_) #[true, true, true, true, true, true, true, true, true, true, true, true, false, false] rfl rfl (by kernel_rfl) ⟨by rfl, ?_⟩ ?_ ?_
   rotate_left
   · intro w'
     go_simp
     with_reducible rfl
   rotate_left
   · simp only [Act.put, sA_, i64_w, i32_w]
     rfl
   refine pureY (i := 12) (N := some 26) (v := ?_) (a' := ?_) #[true, true, true, true, true, true, true, true, true, true, true, true, true, false] rfl rfl (by kernel_rfl) ⟨by rfl, ?_⟩ ?_ ?_
   rotate_left
   · intro w'
     go_simp
     with_reducible rfl
   rotate_left
   · simp only [Act.put, sA_, i64_w, i32_w]
     rfl
   refine last_ (i := 13) (N := none) #[true, true, true, true, true, true, true, true, true, true, true, true, true, true] rfl rfl (by kernel_rfl) (by decide) (fun K hK => ?_)
   refine skip_ (w1 := w1.setCell ⟨g, 0, none⟩ (.slice A1 (L ++ [(⟨⟨⟨s.f0.f0, s.f0.f1⟩, s.f7⟩, s.f6, s.f1, s.f2, s.f3, s.f4, s.f5⟩ : RwT)]).length c1)) (by rfl) rfl ?_ ?_
   · go_simp
   refine hK.out _ _ ?_
   clear hK K
   refine done_ (by kernel_rfl) ?_
   have HR9 := Aside0.mk (show RowsAt w (w1.setCell ⟨g, 0, none⟩ (.slice A1 (L.length + 1) c1)) g ((l0.take (k + 1)).map rowS) by rw [HD.out, show L.length + 1 = (L ++ [(⟨⟨⟨s.f0.f0, s.f0.f1⟩, s.f7⟩, s.f6, s.f1, s.f2, s.f3, s.f4, s.f5⟩ : RwT)]).length by simp]; exact ⟨⟨_, blk_put HV1.out 0 _ rfl, Kd.S_set HS1.out HV1.out (by decide) 0 _⟩, HA.out.le, below_set HB1.out HA.out.le⟩)
   clear hcv1 hfv1
   have HWk := Aside0.mk (show wrap64 ((k : Int) + 1) = ((k + 1 : Nat) : Int) by have := G.out.1; unfold wrap64; omega)
   go_wp2
   rw [HWk.out]
   go_roundw
   case rel => exact ⟨k + 1, by omega, rfl, HR9⟩
   case measure => simp [intOf]; omega
  obtain rfl : k = l0.length := by omega
  have ql : decide (l0.length < l0.length) = false := decide_eq_false hlt
  rw [List.take_length] at HA
  clear hlt hk
  go_wp2
  go_ret
  exact ⟨g, rfl, HA.out⟩
def impl_workerOk.f (a0 : Int) : Option (Bool) := if a0 ≥ 0 then (some (decide (a0 < 16))) else (some false)
set_option maxHeartbeats 8000000 in
set_option maxRecDepth 100000 in
theorem impl_workerOk.calls (a0 : Int) (r : Bool) (w : World) (h : impl_workerOk.f a0 = some r) :
 Calls Tryd.prog 71 #[.int .i64 a0] w fun e w' => e = .returned (.bool r) ∧ Drawn0 w w' := by
 have H : (if a0 ≥ 0 then (some (decide (a0 < 16))) else (some false)) = some r := h
 clear h
 by_cases c2 : a0 ≥ 0
 ·
  rw [if_pos c2] at H
  have c2b0 : decide (0 ≤ a0) = true := decide_eq_true c2
  clear c2
  obtain rfl := Option.some.inj H
  go_enter Tryd.func71, Tryd.ntmps71
  go_wp2
  go_ret
  exact ⟨by first | rfl | (simp; done) | (simp [*]; done), by repeat (first | exact Drawn0.refl _ | apply Drawn0.step)⟩
 rw [if_neg c2] at H
 have c2b0 : decide (0 ≤ a0) = false := decide_eq_false c2
 clear c2
 obtain rfl := Option.some.inj H
 go_enter Tryd.func71, Tryd.ntmps71
 go_wp2
 go_ret
 exact ⟨by first | rfl | (simp; done) | (simp [*]; done), by repeat (first | exact Drawn0.refl _ | apply Drawn0.step)⟩
end Go.Proofs.YtnbohlcibgfjaaaDoor.Gp
end
section
namespace Go.Proofs.YtnbohlcibgfjaaaDoor.Gp
open Go.RowKit Go.Proofs.YtnbohlcibgfjaaaDoorW.PrintWords
section
variable {α : Type} {d : Kd α} {e : Nat} {w w1 : World} {base : Nat} {ok ok' okr : Nat → Prop} {v : Value} {xs : List α}
/-- Elements, their cells, and the blocks that they lead to; no block is led to twice. -/
structure Ov {α : Type} (d : Kd α) (w : World) (base : Nat) (ok : Nat → Prop) (zs : List (α × List Value × (Nat → Prop))) : Prop where
 M : ∀ z ∈ zs, d.M w base z.2.2 z.1 z.2.1
 ok : ∀ z ∈ zs, ∀ k, z.2.2 k → ok k
 apart : zs.Pairwise (fun a b => ∀ k, a.2.2 k → ¬ b.2.2 k)
theorem Ov.step {zs : List (α × List Value × (Nat → Prop))} (h : Ov d w base ok zs) (hm : ∀ k, ok k → k < w.heap.size → w1.heap[k]? = w.heap[k]?) : Ov d w1 base ok zs :=
 ⟨fun z hz => Kd.M_step (h.M z hz) (fun k hk hl => hm k (h.ok z hz k hk) hl), h.ok, h.apart⟩
theorem Ov.mono {zs : List (α × List Value × (Nat → Prop))} (h : Ov d w base ok zs) (hm : ∀ k, ok k → ok' k) : Ov d w base ok' zs :=
 ⟨h.M, fun z hz k hk => hm k (h.ok z hz k hk), h.apart⟩
theorem S_open (h : Kd.S d e w base ok v xs) : ∃ zs : List (α × List Value × (Nat → Prop)), zs.map (·.1) = xs ∧ (Kd.raw d.sz).R e w base (fun k => some k = v.ownBlock) v (zs.map (·.2.1)) ∧ Ov d w base (fun k => (ok k ∧ some k ≠ v.ownBlock) ∧ base ≤ k ∧ k < w.heap.size) zs := by
 obtain ⟨f, h0, inner, ho, hr⟩ := h
 rw [List.length_zipIdx] at ho
 have hlen : inner.length = xs.length * d.sz := by have := hr.1; rw [List.length_zipIdx] at this; exact this
 have hM : ∀ j x, xs[j]? = some x → d.M w base (fun k => ((ok k ∧ some k ≠ v.ownBlock) ∧ base ≤ k ∧ k < w.heap.size) ∧ f k = j) x ((inner.drop (j * d.sz)).take d.sz) := fun j x hx =>
  d.M_mono (fun k hk => ⟨⟨hk.1.1, hk.2.1, hk.2.2.1⟩, hk.1.2⟩) (d.M_bound (hr.2 j (x, j) (Kd.zip_at hx)))
 refine ⟨xs.zipIdx.map (fun p => (p.1, (inner.drop (p.2 * d.sz)).take d.sz, fun k => ((ok k ∧ some k ≠ v.ownBlock) ∧ base ≤ k ∧ k < w.heap.size) ∧ f k = p.2)), ?_, ⟨fun k hk => hk.symm, inner, ?_, ?_, fun j p hj => ?_⟩, ?_, ?_, ?_⟩
 · rw [List.map_map]
   exact List.zipIdx_map_fst ..
 · rw [List.length_map, List.length_map, List.length_zipIdx]
   exact ho
 · rw [List.length_map, List.length_map, List.length_zipIdx]
   exact hlen
 · simp only [List.getElem?_map, List.getElem?_zipIdx, Nat.zero_add, Option.map_map] at hj
   obtain ⟨x, hx, rfl⟩ := Option.map_eq_some_iff.1 hj
   have hm := d.K_of_M (hM j x hx)
   exact ⟨rfl, d.K_len hm, d.K_one hm⟩
 ·
  intro z hz
  obtain ⟨p, hp, rfl⟩ := List.mem_map.1 hz
  obtain ⟨j, hj, he⟩ := List.mem_iff_getElem.1 hp
  rw [List.getElem_zipIdx, Nat.zero_add] at he
  subst he
  rw [List.length_zipIdx] at hj
  exact hM j _ (List.getElem?_eq_getElem hj)
 · intro z hz k hk
   obtain ⟨p, hp, rfl⟩ := List.mem_map.1 hz
   exact hk.1
 rw [List.pairwise_map, List.pairwise_iff_getElem]
 intro i j hi hj hij k h1 h2
 simp only [List.getElem_zipIdx, Nat.zero_add] at h1 h2
 have := h1.2
 have := h2.2
 omega
theorem S_close {zs : List (α × List Value × (Nat → Prop))} (h : Ov d w base ok' zs) (hR : (Kd.raw d.sz).R e w base okr v (zs.map (·.2.1))) (hok : ∀ k, ok' k → ok k ∧ some k ≠ v.ownBlock) (hv : ∀ k, v.ownBlock = some k → ok k) : Kd.S d e w base ok v (zs.map (·.1)) := by
 obtain ⟨f, hf⟩ : ∃ f : Nat → Nat, ∀ (j : Nat) (z : α × List Value × (Nat → Prop)), zs[j]? = some z → ∀ k, z.2.2 k → f k = j := by
  classical
  refine ⟨fun k => if h : ∃ j, ∃ z : α × List Value × (Nat → Prop), zs[j]? = some z ∧ z.2.2 k then h.choose else 0, fun j z hz k hk => ?_⟩
  have hx : ∃ j, ∃ z : α × List Value × (Nat → Prop), zs[j]? = some z ∧ z.2.2 k := ⟨j, z, hz, hk⟩
  simp only [dif_pos hx]
  obtain ⟨z', hz', hk'⟩ := hx.choose_spec
  have hap := List.pairwise_iff_getElem.1 h.apart
  obtain ⟨l1, e1⟩ := List.getElem?_eq_some_iff.1 hz
  obtain ⟨l2, e2⟩ := List.getElem?_eq_some_iff.1 hz'
  rcases Nat.lt_trichotomy hx.choose j with hl | he | hl
  · exact absurd hk (by have := hap _ _ l2 l1 hl k; rw [e1, e2] at this; exact this hk')
  · exact he
  exact absurd hk' (by have := hap _ _ l1 l2 hl k; rw [e1, e2] at this; exact this hk)
 obtain ⟨_, inner, ho, hr⟩ := hR
 rw [List.length_map] at ho
 have hl := hr.1
 rw [List.length_map] at hl
 refine ⟨f, hv, inner, by rw [List.length_zipIdx, List.length_map]; exact ho, by rw [List.length_zipIdx, List.length_map]; exact hl, fun j p hj => ?_⟩
 simp only [List.getElem?_zipIdx, List.getElem?_map, Nat.zero_add, Option.map_map] at hj
 obtain ⟨z, hz, rfl⟩ := Option.map_eq_some_iff.1 hj
 have hc := (hr.2 j z.2.1 (by rw [List.getElem?_map, hz]; rfl)).1
 show d.M w base _ z.1 ((inner.drop (j * d.sz)).take d.sz)
 rw [show (inner.drop (j * d.sz)).take d.sz = z.2.1 from hc]
 have hm := List.mem_of_getElem? hz
 exact d.M_mono (fun k hk => ⟨hok k (h.ok z hm k hk), hf j z hz k hk⟩) (h.M z hm)
end
end Go.Proofs.YtnbohlcibgfjaaaDoor.Gp
end
