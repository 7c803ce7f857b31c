/- A part of the proof of RowFnExactClaim: each text's theorems that it needs, packed by shake.py, a program of this work; Lean checks them. -/
import Derived.Test.YtnbohlcibgfjaaaDoorClm3
import Derived.Test.YtnbohlcibgfjaaaDoorClm17
import Derived.Test.YtnbohlcibgfjaaaDoorClm16
import Derived.Laws.Bits64
section
namespace Go.Proofs.YtnbohlcibgfjaaaDoor.Gp
open Go.RowKit Go.Proofs.YtnbohlcibgfjaaaDoorW.PrintWords Go.Proofs.YtnbohlcibgfjaaaDoorW.PrintLast Go.Proofs.YtnbohlcibgfjaaaDoorW.PrintMore
set_option linter.unusedVariables false
set_option linter.unusedSimpArgs false
def cmp_Compare_string.f (a0 : ByteArray) (a1 : ByteArray) : Option Int := some (if Op.bytesLess a0.toList a1.toList = true then -1 else if Op.bytesLess a1.toList a0.toList = true then 1 else 0)
set_option maxHeartbeats 4000000 in
theorem cmp_Compare_string.calls (a0 : ByteArray) (a1 : ByteArray) (r : Int) (w : World) (h : cmp_Compare_string.f a0 a1 = some r) :
 Calls Tryd.prog 133 #[.string a0, .string a1] w fun e w' => e = .returned (.int .i64 r) ∧ Drawn0 w w' := by
 have H := Option.some.inj h
 clear h
 by_cases c1 : Op.bytesLess a0.toList a1.toList = true
 ·
  rw [if_pos c1] at H
  subst H
  go_enter Tryd.func133, Tryd.ntmps133
  go_wp2
  go_ret
  exact ⟨rfl, Drawn0.refl _⟩
 rw [if_neg c1] at H
 have c1' : Op.bytesLess a0.toList a1.toList = false := by simpa using c1
 by_cases c2 : Op.bytesLess a1.toList a0.toList = true
 ·
  rw [if_pos c2] at H
  subst H
  have c3 : (a0.toList == a1.toList) = false := by
   rw [beq_eq_false_iff_ne]
   intro e
   rw [e, bl_irrefl] at c2
   cases c2
  clear c1 c2
  go_enter Tryd.func133, Tryd.ntmps133
  go_wp2
  go_ret
  exact ⟨rfl, Drawn0.refl _⟩
 rw [if_neg c2] at H
 subst H
 obtain rfl : a0 = a1 := toList_inj (bl_total _ _ c1' (by simpa using c2))
 clear c1 c2
 go_enter Tryd.func133, Tryd.ntmps133
 go_wp2
 go_ret
 exact ⟨rfl, Drawn0.refl _⟩
def impl_compareKeys.f (k : Nat) (a0_0 : Int) (a0_1 : ByteArray) (a1_0 : Int) (a1_1 : ByteArray) : Option (Int) := (cmp_Compare_int.f a0_0 a1_0).bind fun t332 => ((cmp_Compare_string.f a0_1 a1_1).bind fun t333 => ((cmp_Or_int.f k (([t332, t333] : List Int))).bind fun t337 => (some t337)))
def impl_compareKeys.T1 : Bool × List (List Nat × List Nat) := (true, [([], []), ([0], [0]), ([], []), ([2], [2]), ([1, 3], [1, 3]), ([], []), ([5], [5]), ([], []), ([7], [7]), ([6, 8, 4], [6, 8]), ([4, 9], [4, 9]), ([10, 9], [10]), ([11, 11, 0, 1, 2, 3, 4, 5, 6, 7, 8, 9, 10, 11], [11])])
def impl_compareKeys.B1 : List Nat := [0, 1, 0, 4, 15, 0, 32, 0, 128, 511, 1023, 2047, 4095]
theorem impl_compareKeys.tab1 : rtab .any (opsOf Tryd.f97 1) = impl_compareKeys.T1 := by kernel_rfl
theorem impl_compareKeys.bits1 : waitsOk impl_compareKeys.T1.2 impl_compareKeys.B1 = true := by kernel_rfl
set_option maxHeartbeats 8000000 in
set_option maxRecDepth 100000 in
theorem impl_compareKeys.calls (k : Nat) (a0_0 : Int) (a0_1 : ByteArray) (a1_0 : Int) (a1_1 : ByteArray) (r : Int) (w : World) (h : impl_compareKeys.f k a0_0 a0_1 a1_0 a1_1 = some r) :
 Calls Tryd.prog 97 #[.agg #[.int .i64 a0_0, .string a0_1], .agg #[.int .i64 a1_0, .string a1_1]] w fun e w' => e = .returned (.int .i64 r) ∧ Below w.heap.size w w' := by
 have hu29 := Tryd.underlying29
 have HB := Aside0.mk (Below.refl w.heap.size w)
 have H : ((cmp_Compare_int.f a0_0 a1_0).bind fun t332 => ((cmp_Compare_string.f a0_1 a1_1).bind fun t333 => ((cmp_Or_int.f k (([t332, t333] : List Int))).bind fun t337 => (some t337)))) = some r := h
 clear h
 replace H := Option.bind_eq_some_iff.mp H
 obtain ⟨t332, A30, H⟩ := H
 replace H : ((cmp_Compare_string.f a0_1 a1_1).bind fun t333 => ((cmp_Or_int.f k (([t332, t333] : List Int))).bind fun t337 => (some t337))) = some r := H
 have A3 := Aside0.mk A30
 clear A30
 replace H := Option.bind_eq_some_iff.mp H
 obtain ⟨t333, A40, H⟩ := H
 replace H : ((cmp_Or_int.f k (([t332, t333] : List Int))).bind fun t337 => (some t337)) = some r := H
 have A4 := Aside0.mk A40
 clear A40
 obtain ⟨y334, hy334⟩ : ∃ y_ : List Int, y_ = (([t332, t333] : List Int)) := ⟨_, rfl⟩
 replace H : ((cmp_Or_int.f k y334).bind fun t337 => (some t337)) = some r := by first | (rw [hy334]; with_reducible exact H) | (have H2_ := (Option.bind_some _ _).symm.trans H; rw [hy334]; with_reducible exact H2_) | (have H2_ := (Option.bind_some _ _).symm.trans H; with_reducible exact H2_) | with_reducible exact H | (rw [hy334]; exact H) | exact H
 have Ny334 := Aside0.mk hy334
 clear hy334
 replace H := Option.bind_eq_some_iff.mp H
 obtain ⟨t337, A50, H⟩ := H
 replace H : (some t337) = some r := H
 have A5 := Aside0.mk A50
 clear A50
 obtain rfl := Option.some.inj H
 go_enter Tryd.func97, Tryd.ntmps97
 try go_wp2_with (first | ((with_reducible refine gate_dst (N := 2) rfl ?_); refine box_event ?hg (N := 2) ?hd (cs := #[.int .i64 a0_0, .string a0_1]) (t := 29) ?hr ?_; (case hd => rfl); (case hg => rfl); (case hr => first | (go_simp; done) | (go_simp; rfl)); intro gb330 hg w6 hbox hb; have hb1_ := fromQ HB.out hb; have hb0_ := below_step hb1_ hb; have hW_ := below_step HB.out hb1_; have n1_ := Aside0.mk (hbox); have n2_ := szle hg hW_; have n3_ := szle hg hW_; replace HB := kH HB hb0_; have BK330 := n1_; have GW330 := n2_; have GE330 := n3_; clear hb1_ hb0_ hW_ n1_ n2_ n3_; clear hb hbox hg) | ((with_reducible refine gate_dst (N := 3) rfl ?_); refine box_event ?hg (N := 3) ?hd (cs := #[.int .i64 a1_0, .string a1_1]) (t := 29) ?hr ?_; (case hd => rfl); (case hg => rfl); (case hr => first | (go_simp; done) | (go_simp; rfl)); intro gb331 hg w7 hbox hb; have hb1_ := fromQ HB.out hb; have hb0_ := below_step hb1_ hb; have hW_ := below_step HB.out hb1_; have n2_ := Aside0.mk (hbox); have n3_ := szle hg hW_; have n4_ := szle hg hW_; have n5_ := nelt hg BK330 hb1_; have n6_ := negt hg BK330 hb1_; replace BK330 := kB BK330 hb0_; replace HB := kH HB hb0_; have BK331 := n2_; have GW331 := n3_; have GE331 := n4_; have NB330_331 := n5_; have NB331_330 := n6_; clear hb1_ hb0_ hW_ n2_ n3_ n4_ n5_ n6_; clear hb hbox hg))
 have n0_ := Aside0.mk (blk_drew BK330.out)
 have n1_ := Aside0.mk (blk_drew BK331.out)
 have n2_ := Aside0.mk (below_drew1 HB.out)
 clear BK330
 clear BK331
 clear HB
 have BK330 := n0_
 have BK331 := n1_
 have HB := n2_
 clear n0_ n1_ n2_
 refine start_ (n := 13) (S := fun w' => w'.cell? ⟨gb330, 0, none⟩ = some (.int .i64 a0_0) ∧ w'.cell? ⟨gb330, 1, none⟩ = some (.string a0_1) ∧ w'.cell? ⟨gb331, 0, none⟩ = some (.int .i64 a1_0) ∧ w'.cell? ⟨gb331, 1, none⟩ = some (.string a1_1)) (ds := []) #[false, false, false, false, false, false, false, false, false, false, false, false, false] (by kernel_rfl) rfl rfl ⟨(blk_cell BK330.out 0).trans rfl, (blk_cell BK330.out 1).trans rfl, (blk_cell BK331.out 0).trans rfl, (blk_cell BK331.out 1).trans rfl⟩ (fun hHeld => ?_); refine with_tabW impl_compareKeys.tab1 impl_compareKeys.bits1 (fun HT_ HW_ => ?_)
 generalize w7.drew = w8 at BK330 BK331 HB hHeld ⊢
 refine pureY (i := 0) (N := some 5) (v := ?_) (a' := ?_) #[true, false, false, false, false, false, false, false, false, false, false, false, false] rfl rfl (any_of HT_.out (by kernel_rfl)) ⟨by rfl, ?_⟩ ?_ ?_
 rotate_left
 · intro w'
   go_simp
   with_reducible rfl
 rotate_left
 · simp only [Act.put, sA_, i64_w, i32_w]
   rfl
 refine pureY (i := 2) (N := some 7) (v := ?_) (a' := ?_) #[true, false, true, false, false, false, false, false, false, false, false, false, false] rfl rfl (any_of HT_.out (by kernel_rfl)) ⟨by rfl, ?_⟩ ?_ ?_
 rotate_left
 · intro w'
   go_simp
   with_reducible rfl
 rotate_left
 · simp only [Act.put, sA_, i64_w, i32_w]
   rfl
 refine pureY (i := 5) (N := some 10) (v := ?_) (a' := ?_) #[true, false, true, false, false, true, false, false, false, false, false, false, false] rfl rfl (any_of HT_.out (by kernel_rfl)) ⟨by rfl, ?_⟩ ?_ ?_
 rotate_left
 · intro w'
   go_simp
   with_reducible rfl
 rotate_left
 · simp only [Act.put, sA_, i64_w, i32_w]
   rfl
 refine pureY (i := 7) (N := some 12) (v := ?_) (a' := ?_) #[true, false, true, false, false, true, false, true, false, false, false, false, false] rfl rfl (any_of HT_.out (by kernel_rfl)) ⟨by rfl, ?_⟩ ?_ ?_
 rotate_left
 · intro w'
   go_simp
   with_reducible rfl
 rotate_left
 · simp only [Act.put, sA_, i64_w, i32_w]
   rfl
 refine takeY (i := 1) (N := some 6) (v := ?_) (a' := ?_) #[true, true, true, false, false, true, false, true, false, false, false, false, false] rfl rfl (take_ofW HT_.out HW_.out (by kernel_rfl)) ⟨by rfl, ?_⟩ hHeld ?_ ?_
 rotate_left
 · rintro w' ⟨s0, s1, s2, s3⟩
   go_simp
   with_reducible rfl
 rotate_left
 · simp only [Act.put, sA_, i64_w, i32_w]
   rfl
 refine takeY (i := 3) (N := some 8) (v := ?_) (a' := ?_) #[true, true, true, true, false, true, false, true, false, false, false, false, false] rfl rfl (take_ofW HT_.out HW_.out (by kernel_rfl)) ⟨by rfl, ?_⟩ hHeld ?_ ?_
 rotate_left
 · rintro w' ⟨s0, s1, s2, s3⟩
   go_simp
   with_reducible rfl
 rotate_left
 · simp only [Act.put, sA_, i64_w, i32_w]
   rfl
 refine takeY (i := 6) (N := some 11) (v := ?_) (a' := ?_) #[true, true, true, true, false, true, true, true, false, false, false, false, false] rfl rfl (take_ofW HT_.out HW_.out (by kernel_rfl)) ⟨by rfl, ?_⟩ hHeld ?_ ?_
 rotate_left
 · rintro w' ⟨s0, s1, s2, s3⟩
   go_simp
   with_reducible rfl
 rotate_left
 · simp only [Act.put, sA_, i64_w, i32_w]
   rfl
 refine takeY (i := 8) (N := some 13) (v := ?_) (a' := ?_) #[true, true, true, true, false, true, true, true, true, false, false, false, false] rfl rfl (take_ofW HT_.out HW_.out (by kernel_rfl)) ⟨by rfl, ?_⟩ hHeld ?_ ?_
 rotate_left
 · rintro w' ⟨s0, s1, s2, s3⟩
   go_simp
   with_reducible rfl
 rotate_left
 · simp only [Act.put, sA_, i64_w, i32_w]
   rfl
 refine one_ (i := 4) (N := some 9) #[true, true, true, true, true, true, true, true, true, false, false, false, false] rfl rfl (one_of HT_.out (by kernel_rfl)) (by decide) (fun K hK => ?_)
 refine goes_ Tryd.func132 (by kernel_rfl) rfl #[.int .i64 a0_0, .int .i64 a1_0] (by rfl) rfl rfl (by (try simp only [List.map_toArray, List.map_cons, List.map_nil]); first | done | rfl | (simp only [List.length_drop, List.length_take]; rfl)) ?_
 with_reducible refine (cmp_Compare_int.calls a0_0 a1_0 t332 _ A3.out).mono ?_
 rintro e w' ⟨rfl, ⟨nd, rfl⟩⟩
 refine ⟨_, rfl, ?_⟩
 refine hK.out _ _ ⟨(blk_cell BK330.out 0).trans rfl, (blk_cell BK330.out 1).trans rfl, (blk_cell BK331.out 0).trans rfl, (blk_cell BK331.out 1).trans rfl⟩ (fun hHeld => ?_)
 clear hK K
 refine norm_ (a' := ?_) ?_ ?_
 rotate_left
 · show Act.put _ (some 9) _ = _
   simp only [Act.put, sA_, i64_w, i32_w]
   rfl
 refine one_ (i := 9) (N := some 14) #[true, true, true, true, true, true, true, true, true, true, false, false, false] rfl rfl (one_of HT_.out (by kernel_rfl)) (by decide) (fun K hK => ?_)
 refine goes_ Tryd.func133 (by kernel_rfl) rfl #[.string a0_1, .string a1_1] (by rfl) rfl rfl (by (try simp only [List.map_toArray, List.map_cons, List.map_nil]); first | done | rfl | (simp only [List.length_drop, List.length_take]; rfl)) ?_
 with_reducible refine (cmp_Compare_string.calls a0_1 a1_1 t333 _ A4.out).mono ?_
 rintro e w' ⟨rfl, ⟨nd, rfl⟩⟩
 refine ⟨_, rfl, ?_⟩
 refine hK.out _ _ ⟨(blk_cell BK330.out 0).trans rfl, (blk_cell BK330.out 1).trans rfl, (blk_cell BK331.out 0).trans rfl, (blk_cell BK331.out 1).trans rfl⟩ (fun hHeld => ?_)
 clear hK K
 refine norm_ (a' := ?_) ?_ ?_
 rotate_left
 · show Act.put _ (some 14) _ = _
   simp only [Act.put, sA_, i64_w, i32_w]
   rfl
 refine one_ (i := 10) (N := some 15) #[true, true, true, true, true, true, true, true, true, true, true, false, false] rfl rfl (one_of HT_.out (by kernel_rfl)) (by decide) (fun K hK => ?_)
 refine Kd.R_lit_step (Kd.int .i64) _ 3 ?hg (N := 15) ?hd (xs := ([t332, t333] : List Int)) (inner := [.int .i64 t332, .int .i64 t333]) (ok := fun _ => True) (okp := fun _ => True) ?hr ?hp (fun _ hk => hk) trivial (Below.refl _ _) (Nat.le_refl _) (by simp) ?_; (case hd => rfl); (case hg => rfl); (case hr => first | (go_simp; done) | (go_simp; rfl)); (case hp => exact (Reps.one (show Kd.M (Kd.int .i64) _ _ _ t332 [.int .i64 t332] from rfl) (Reps.one (show Kd.M (Kd.int .i64) _ _ _ t333 [.int .i64 t333] from rfl) (Reps.none _ _))))
 intro v335 w9 ho10 hb hg_ hnew_
 clear hg_ hnew_
 (first | rw [← Ny334.out] at ho10 | (simp only [Int.reduceToNat] at ho10; rw [← Ny334.out] at ho10))
 have hb1_ := fromQ HB.out hb
 have hb0_ := below_step hb1_ hb
 have hW_ := below_step HB.out hb1_
 have n0_ := Aside0.mk (Kd.R_lower ho10 (below_size hW_))
 replace BK330 := kB BK330 hb0_
 replace BK331 := kB BK331 hb0_
 replace HB := kH HB hb0_
 have HO336 := n0_
 clear hb1_ hb0_ hW_ n0_
 clear hb ho10
 obtain ⟨Ao11, co11, eo11⟩ := Kd.R_slice HO336.out
 (first | subst eo11 | (injection eo11 with f1_ f2_ f3_; have f4_ := f1_.symm; have f5_ := f3_.symm; clear f1_ f2_ f3_; subst f4_; subst f5_))
 refine hK.out _ _ ⟨(blk_cell BK330.out 0).trans rfl, (blk_cell BK330.out 1).trans rfl, (blk_cell BK331.out 0).trans rfl, (blk_cell BK331.out 1).trans rfl⟩ (fun hHeld => ?_)
 clear hK K
 refine norm_ (a' := ?_) ?_ ?_
 rotate_left
 · show Act.put _ (some 15) _ = _
   simp only [Act.put, sA_, i64_w, i32_w]
   rfl
 refine one_ (i := 11) (N := some 16) #[true, true, true, true, true, true, true, true, true, true, true, true, false] rfl rfl (one_of HT_.out (by kernel_rfl)) (by decide) (fun K hK => ?_)
 refine goes_ Tryd.func131 (by kernel_rfl) rfl #[.slice Ao11 y334.length co11] (by rfl) rfl rfl (by (try simp only [List.map_toArray, List.map_cons, List.map_nil]); first | done | rfl | (simp only [List.length_drop, List.length_take]; rfl)) ?_
 with_reducible refine (cmp_Or_int.calls k _ _ y334 t337 _ ?side1 ?side2 A5.out).mono ?_
 (case side1 => repeat (first | exact (Kd.R_reads' HO336.out).2.2 | (with_reducible refine Kd.C_alloc ?_ _) | (with_reducible refine Kd.C_drewN ?_ _) | (with_reducible refine Kd.C_drew ?_)))
 (case side2 => exact (Kd.R_reads' HO336.out).2.1)
 rintro e w' ⟨rfl, ⟨nd, rfl⟩⟩
 refine ⟨_, rfl, ?_⟩
 refine hK.out _ _ ⟨(blk_cell BK330.out 0).trans rfl, (blk_cell BK330.out 1).trans rfl, (blk_cell BK331.out 0).trans rfl, (blk_cell BK331.out 1).trans rfl⟩ (fun hHeld => ?_)
 clear hK K
 refine norm_ (a' := ?_) ?_ ?_
 rotate_left
 · show Act.put _ (some 16) _ = _
   simp only [Act.put, sA_, i64_w, i32_w]
   rfl
 refine pureY (i := 12) (N := some 4) (v := ?_) (a' := ?_) #[true, true, true, true, true, true, true, true, true, true, true, true, true] rfl rfl (any_of HT_.out (by kernel_rfl)) ⟨by rfl, ?_⟩ ?_ ?_
 rotate_left
 · intro w'
   go_simp
   with_reducible rfl
 rotate_left
 · simp only [Act.put, sA_, i64_w, i32_w]
   rfl
 refine done_ (done_of HT_.out (by kernel_rfl)) ?_
 try go_wp2
 go_ret
 exact ⟨by first | rfl | (simp [errW_none, errW_some] <;> rfl) | (simp [*, errW_none, errW_some] <;> rfl), by repeat (first | (with_reducible first | exact HB.out | apply below_alloc | apply pw_below_drewN | apply below_drew1 | refine below_set ?_ GE330.out | refine below_set ?_ GE331.out) | exact HB.out)⟩
abbrev RwT := S101
theorem blk_new_at {w : World} {o : Obj} {n : Nat} (h : w.heap.size = n) : (w.alloc o).heap[n]? = some o := h ▸ blk_new w o
set_option maxHeartbeats 4000000 in
set_option maxRecDepth 100000 in
theorem slices_BinarySearchFunc_impl_row_impl_row_impl_Key.keyOf (a0 : Int) (a1 : ByteArray) (a2 a3 : Int) (a4 : Bool) (a5 : ByteArray) (A6 : Option Addr) (n6 c6 : Nat) (a7 a8 : Int) (w : World) :
 Calls Tryd.prog 150 #[.agg #[.int .i64 a0, .string a1, .int .i64 a2, .int .i64 a3, .bool a4, .string a5, .slice A6 n6 c6, .int .i64 a7, .int .i64 a8]] w fun e w' => e = .returned (.agg #[.int .i64 a0, .string a1]) ∧ Below w.heap.size w w' := by
 have hu := Tryd.underlying101
 have hu2 := Tryd.underlying99
 have hu3 := Tryd.underlying29
 go_enter Tryd.func150, Tryd.ntmps150
 go_wp2
 refine bodyPost_ret (results_cell_row rfl _ _ (w.heap.size + 1) 29 #[.int .i64 a0, .string a1] (0, 0) _ rfl (blk_new_at (by simp)) Tryd.underlying29 rfl (by kernel_rfl)) rfl ?_
 exact ⟨rfl, by repeat (first | exact Below.refl _ _ | apply below_alloc | apply below_drew1)⟩
theorem callv_ {P : Program} {ops : Array Oper} {Q : Exit → Act → World → Prop} {oi : Oper} {N : Option Tmp} {a : Act} {w : World} {K : Act → World → Prop} {f : FuncId} {fn : Func} {co : Operand} {ars : Array Operand} {ts : Array TypeId} (caps : Array Value) (hf : P.funcs[f]? = some fn) (hname : (fn.name == "runtime.NumGoroutine") = false) (hb : fn.body.isSome = true) (args : Array Value)
 (hw : Region.wanted oi (yielded ops a.tmps) = true) (hN : oi.dst = N) (hop : oi.op = .call { callee := .value co, args := ars, argTypes := ts }) (hco : a.eval co = .func (.func f) #[] caps) (hargs : ars.map a.eval ++ caps = args)
 (h : Calls P f args w fun e w' => ∃ v, e = .returned v ∧ K (a.put N v) w') : if Region.wanted oi (yielded ops a.tmps) = true then Oper.wp P oi a w K Q else K (a.put N undef) w := by
 refine call_ f args hw hN ?_ h
 have he := enters_ hf hname hb args w
 unfold execOp
 simp [hop, resolve, Deferred.ofValue, invoke, hco, hargs, he]
structure slices_BinarySearchFunc_impl_row_impl_row_impl_Key.Ord (W : World) (gb go : Nat) : Prop where
 hb : W.cell? ⟨gb, 0, none⟩ = some (.pointer (some ⟨go, 0, none⟩))
 hk : W.cell? ⟨go, 1, none⟩ = some (.func (.func 150) #[] #[])
 hc : W.cell? ⟨go, 2, none⟩ = some (.func (.func 97) #[] #[])
theorem slices_BinarySearchFunc_impl_row_impl_row_impl_Key.Ord.keep {W W1 : World} {gb go : Nat} (h : slices_BinarySearchFunc_impl_row_impl_row_impl_Key.Ord W gb go) (b : Below W.heap.size W W1) : slices_BinarySearchFunc_impl_row_impl_row_impl_Key.Ord W1 gb go := ⟨pw_cell_below b h.hb, pw_cell_below b h.hk, pw_cell_below b h.hc⟩
set_option maxHeartbeats 8000000 in
set_option maxRecDepth 100000 in
theorem slices_BinarySearchFunc_impl_row_impl_row_impl_Key.cmp (k : Nat) (a0 : Int) (a1 : ByteArray) (a2 a3 : Int) (a4 : Bool) (a5 : ByteArray) (A6 : Option Addr) (n6 c6 : Nat) (a7 a8 : Int) (b0 : Int) (b1 : ByteArray) (gb go : Nat) (r : Int) (w : World) (hO : slices_BinarySearchFunc_impl_row_impl_row_impl_Key.Ord w gb go) (h : impl_compareKeys.f k a0 a1 b0 b1 = some r) :
 Calls Tryd.prog 152 #[.agg #[.int .i64 a0, .string a1, .int .i64 a2, .int .i64 a3, .bool a4, .string a5, .slice A6 n6 c6, .int .i64 a7, .int .i64 a8], .agg #[.int .i64 b0, .string b1], .pointer (some ⟨gb, 0, none⟩)] w fun e w' => e = .returned (.int .i64 r) ∧ Below w.heap.size w w' := by
 have hu := Tryd.underlying101
 have hu2 := Tryd.underlying99
 have hu3 := Tryd.underlying29
 have hu4 := Tryd.underlying95
 have H := Aside0.mk h
 have HO := Aside0.mk hO
 clear h hO
 go_enter Tryd.func152, Tryd.ntmps152
 go_wp2
 have hbx : ∃ W2 : World, W2 = ((w.alloc (.cells #[.int .i64 a0, .string a1, .int .i64 a2, .int .i64 a3, .bool a4, .string a5, .slice A6 n6 c6, .int .i64 a7, .int .i64 a8] 101)).alloc (.cells #[.int .i64 b0, .string b1] 29)) := ⟨_, rfl⟩
 obtain ⟨W2, hW2⟩ := hbx
 rw [← hW2]
 have hB2 : Below w.heap.size w W2 := by rw [hW2]; repeat (first | exact Below.refl _ _ | apply below_alloc)
 have hx3 : W2.heap[w.heap.size]? = some (.cells #[.int .i64 a0, .string a1, .int .i64 a2, .int .i64 a3, .bool a4, .string a5, .slice A6 n6 c6, .int .i64 a7, .int .i64 a8] 101 (0, 0)) := by rw [hW2]; exact blk_alloc (blk_new w _) _
 have hx4 : W2.heap[w.heap.size + 1]? = some (.cells #[.int .i64 b0, .string b1] 29 (0, 0)) := by rw [hW2]; exact blk_new_at (by simp)
 clear hW2
 have HB2 := Aside0.mk hB2
 clear hB2
 have HO2 := Aside0.mk (HO.out.keep HB2.out)
 generalize w.heap.size + 1 = g4 at hx4 ⊢
 have HX3 := Aside0.mk hx3
 have HX4 := Aside0.mk hx4
 clear hx3 hx4
 refine start_ (n := 13) (S := fun w' => w'.cell? ⟨gb, 0, none⟩ = some (.pointer (some ⟨go, 0, none⟩)) ∧ w'.cell? ⟨go, 1, none⟩ = some (.func (.func 150) #[] #[]) ∧ w'.cell? ⟨go, 2, none⟩ = some (.func (.func 97) #[] #[]) ∧ w'.cell? ⟨w.heap.size, 0, none⟩ = some (.int .i64 a0) ∧ w'.cell? ⟨w.heap.size, 1, none⟩ = some (.string a1) ∧ w'.cell? ⟨w.heap.size, 2, none⟩ = some (.int .i64 a2) ∧ w'.cell? ⟨w.heap.size, 3, none⟩ = some (.int .i64 a3) ∧ w'.cell? ⟨w.heap.size, 4, none⟩ = some (.bool a4) ∧ w'.cell? ⟨w.heap.size, 5, none⟩ = some (.string a5) ∧ w'.cell? ⟨w.heap.size, 6, none⟩ = some (.slice A6 n6 c6) ∧ w'.cell? ⟨w.heap.size, 7, none⟩ = some (.int .i64 a7) ∧ w'.cell? ⟨w.heap.size, 8, none⟩ = some (.int .i64 a8) ∧ w'.cell? ⟨g4, 0, none⟩ = some (.int .i64 b0) ∧ w'.cell? ⟨g4, 1, none⟩ = some (.string b1)) (ds := []) #[false, false, false, false, false, false, false, false, false, false, false, false, false] (by kernel_rfl) rfl rfl ⟨HO2.out.hb, HO2.out.hk, HO2.out.hc, (blk_cell HX3.out 0).trans rfl, (blk_cell HX3.out 1).trans rfl, (blk_cell HX3.out 2).trans rfl, (blk_cell HX3.out 3).trans rfl, (blk_cell HX3.out 4).trans rfl, (blk_cell HX3.out 5).trans rfl, (blk_cell HX3.out 6).trans rfl, (blk_cell HX3.out 7).trans rfl, (blk_cell HX3.out 8).trans rfl, (blk_cell HX4.out 0).trans rfl, (blk_cell HX4.out 1).trans rfl⟩ (fun hHeld => ?_)
 refine takeY (i := 0) (N := some 6) (v := ?_) (a' := ?_) #[true, false, false, false, false, false, false, false, false, false, false, false, false] rfl rfl (by kernel_rfl) ⟨by rfl, ?_⟩ hHeld ?_ ?_
 rotate_left
 · rintro w' ⟨s0, s1, s2, s3, s4, s5, s6, s7, s8, s9, s10, s11, s12, s13⟩
   go_simp
   with_reducible rfl
 rotate_left
 · simp only [Act.put, sA_, i64_w, i32_w]
   rfl
 refine pureY (i := 1) (N := some 7) (v := ?_) (a' := ?_) #[true, true, false, false, false, false, false, false, false, false, false, false, false] rfl rfl (by kernel_rfl) ⟨by rfl, ?_⟩ ?_ ?_
 rotate_left
 · intro w'
   go_simp
   with_reducible rfl
 rotate_left
 · simp only [Act.put, sA_, i64_w, i32_w]
   rfl
 refine pureY (i := 2) (N := some 8) (v := ?_) (a' := ?_) #[true, true, true, false, false, false, false, false, false, false, false, false, false] rfl rfl (by kernel_rfl) ⟨by rfl, ?_⟩ ?_ ?_
 rotate_left
 · intro w'
   go_simp
   with_reducible rfl
 rotate_left
 · simp only [Act.put, sA_, i64_w, i32_w]
   rfl
 refine takeY (i := 3) (N := some 9) (v := ?_) (a' := ?_) #[true, true, true, true, false, false, false, false, false, false, false, false, false] rfl rfl (by kernel_rfl) ⟨by rfl, ?_⟩ hHeld ?_ ?_
 rotate_left
 · rintro w' ⟨s0, s1, s2, s3, s4, s5, s6, s7, s8, s9, s10, s11, s12, s13⟩
   go_simp
   with_reducible rfl
 rotate_left
 · simp only [Act.put, sA_, i64_w, i32_w]
   rfl
 refine takeY (i := 4) (N := some 10) (v := ?_) (a' := ?_) #[true, true, true, true, true, false, false, false, false, false, false, false, false] rfl rfl (by kernel_rfl) ⟨by rfl, ?_⟩ hHeld ?_ ?_
 rotate_left
 · rintro w' ⟨s0, s1, s2, s3, s4, s5, s6, s7, s8, s9, s10, s11, s12, s13⟩
   go_simp
   with_reducible rfl
 rotate_left
 · simp only [Act.put, sA_, i64_w, i32_w]
   rfl
 refine pureY (i := 5) (N := some 11) (v := ?_) (a' := ?_) #[true, true, true, true, true, true, false, false, false, false, false, false, false] rfl rfl (by kernel_rfl) ⟨by rfl, ?_⟩ ?_ ?_
 rotate_left
 · intro w'
   go_simp
   with_reducible rfl
 rotate_left
 · simp only [Act.put, sA_, i64_w, i32_w]
   rfl
 refine pureY (i := 6) (N := some 12) (v := ?_) (a' := ?_) #[true, true, true, true, true, true, true, false, false, false, false, false, false] rfl rfl (by kernel_rfl) ⟨by rfl, ?_⟩ ?_ ?_
 rotate_left
 · intro w'
   go_simp
   with_reducible rfl
 rotate_left
 · simp only [Act.put, sA_, i64_w, i32_w]
   rfl
 refine takeY (i := 7) (N := some 13) (v := ?_) (a' := ?_) #[true, true, true, true, true, true, true, true, false, false, false, false, false] rfl rfl (by kernel_rfl) ⟨by rfl, ?_⟩ hHeld ?_ ?_
 rotate_left
 · rintro w' ⟨s0, s1, s2, s3, s4, s5, s6, s7, s8, s9, s10, s11, s12, s13⟩
   go_simp
   with_reducible rfl
 rotate_left
 · simp only [Act.put, sA_, i64_w, i32_w]
   rfl
 refine takeY (i := 8) (N := some 14) (v := ?_) (a' := ?_) #[true, true, true, true, true, true, true, true, true, false, false, false, false] rfl rfl (by kernel_rfl) ⟨by rfl, ?_⟩ hHeld ?_ ?_
 rotate_left
 · rintro w' ⟨s0, s1, s2, s3, s4, s5, s6, s7, s8, s9, s10, s11, s12, s13⟩
   go_simp
   with_reducible rfl
 rotate_left
 · simp only [Act.put, sA_, i64_w, i32_w]
   rfl
 refine takeY (i := 10) (N := some 16) (v := ?_) (a' := ?_) #[true, true, true, true, true, true, true, true, true, false, true, false, false] rfl rfl (by kernel_rfl) ⟨by rfl, ?_⟩ hHeld ?_ ?_
 rotate_left
 · rintro w' ⟨s0, s1, s2, s3, s4, s5, s6, s7, s8, s9, s10, s11, s12, s13⟩
   go_simp
   with_reducible rfl
 rotate_left
 · simp only [Act.put, sA_, i64_w, i32_w]
   rfl
 refine one_ (i := 9) (N := some 15) #[true, true, true, true, true, true, true, true, true, true, true, false, false] rfl rfl (by kernel_rfl) (by decide) (fun K hK => ?_)
 refine callv_ #[] Tryd.func150 rfl rfl #[.agg #[.int .i64 a0, .string a1, .int .i64 a2, .int .i64 a3, .bool a4, .string a5, .slice A6 n6 c6, .int .i64 a7, .int .i64 a8]] rfl rfl rfl rfl (by (try simp only [List.map_toArray, List.map_cons, List.map_nil, List.append_toArray, List.append_nil, List.nil_append, List.cons_append]); rfl) ?_
 refine (slices_BinarySearchFunc_impl_row_impl_row_impl_Key.keyOf _ _ _ _ _ _ _ _ _ _ _ _).mono ?_
 rintro e w5 ⟨rfl, hb5⟩
 refine ⟨_, rfl, ?_⟩
 refine hK.out _ _ ⟨pw_cell_below hb5 hHeld.1, pw_cell_below hb5 hHeld.2.1, pw_cell_below hb5 hHeld.2.2.1, pw_cell_below hb5 hHeld.2.2.2.1, pw_cell_below hb5 hHeld.2.2.2.2.1, pw_cell_below hb5 hHeld.2.2.2.2.2.1, pw_cell_below hb5 hHeld.2.2.2.2.2.2.1, pw_cell_below hb5 hHeld.2.2.2.2.2.2.2.1, pw_cell_below hb5 hHeld.2.2.2.2.2.2.2.2.1, pw_cell_below hb5 hHeld.2.2.2.2.2.2.2.2.2.1, pw_cell_below hb5 hHeld.2.2.2.2.2.2.2.2.2.2.1, pw_cell_below hb5 hHeld.2.2.2.2.2.2.2.2.2.2.2.1, pw_cell_below hb5 hHeld.2.2.2.2.2.2.2.2.2.2.2.2.1, pw_cell_below hb5 hHeld.2.2.2.2.2.2.2.2.2.2.2.2.2⟩ (fun hHeld => ?_)
 clear hK K
 refine norm_ (a' := ?_) ?_ ?_
 rotate_left
 · show Act.put _ (some 15) _ = _
   simp only [Act.put, sA_, i64_w, i32_w]
   rfl
 have HB5 := Aside0.mk (below_step (below_drew1 HB2.out) hb5)
 clear hb5
 refine one_ (i := 11) (N := some 17) #[true, true, true, true, true, true, true, true, true, true, true, true, false] rfl rfl (by kernel_rfl) (by decide) (fun K hK => ?_)
 refine callv_ #[] Tryd.func97 rfl rfl #[.agg #[.int .i64 a0, .string a1], .agg #[.int .i64 b0, .string b1]] rfl rfl rfl rfl (by (try simp only [List.map_toArray, List.map_cons, List.map_nil, List.append_toArray, List.append_nil, List.nil_append, List.cons_append]); rfl) ?_
 refine (impl_compareKeys.calls k _ _ _ _ r _ H.out).mono ?_
 rintro e w6 ⟨rfl, hb6⟩
 refine ⟨_, rfl, ?_⟩
 refine hK.out _ _ ⟨pw_cell_below hb6 hHeld.1, pw_cell_below hb6 hHeld.2.1, pw_cell_below hb6 hHeld.2.2.1, pw_cell_below hb6 hHeld.2.2.2.1, pw_cell_below hb6 hHeld.2.2.2.2.1, pw_cell_below hb6 hHeld.2.2.2.2.2.1, pw_cell_below hb6 hHeld.2.2.2.2.2.2.1, pw_cell_below hb6 hHeld.2.2.2.2.2.2.2.1, pw_cell_below hb6 hHeld.2.2.2.2.2.2.2.2.1, pw_cell_below hb6 hHeld.2.2.2.2.2.2.2.2.2.1, pw_cell_below hb6 hHeld.2.2.2.2.2.2.2.2.2.2.1, pw_cell_below hb6 hHeld.2.2.2.2.2.2.2.2.2.2.2.1, pw_cell_below hb6 hHeld.2.2.2.2.2.2.2.2.2.2.2.2.1, pw_cell_below hb6 hHeld.2.2.2.2.2.2.2.2.2.2.2.2.2⟩ (fun hHeld => ?_)
 clear hK K
 refine norm_ (a' := ?_) ?_ ?_
 rotate_left
 · show Act.put _ (some 17) _ = _
   simp only [Act.put, sA_, i64_w, i32_w]
   rfl
 have HB6 := Aside0.mk (below_step HB5.out hb6)
 clear hb6
 refine pureY (i := 12) (N := some 5) (v := ?_) (a' := ?_) #[true, true, true, true, true, true, true, true, true, true, true, true, true] rfl rfl (by kernel_rfl) ⟨by rfl, ?_⟩ ?_ ?_
 rotate_left
 · intro w'
   go_simp
   with_reducible rfl
 rotate_left
 · simp only [Act.put, sA_, i64_w, i32_w]
   rfl
 refine done_ (by kernel_rfl) ?_
 try go_wp2
 go_ret
 exact ⟨rfl, HB6.out⟩
def slices_BinarySearchFunc_impl_row_impl_row_impl_Key.bsL : Nat → List RwT → Int → ByteArray → Int → Int → Option Int
 | 0, _, _, _, _, _ => none
 | k + 1, l, b0, b1, lo, hi => if 0 ≤ lo ∧ hi ≤ (l.length : Int) ∧ l.length ≤ 4096 then (if lo < hi then (impl_compareKeys.f k (rd_T101 l ((lo + hi) / 2)).f0.f0.f0 (rd_T101 l ((lo + hi) / 2)).f0.f0.f1 b0 b1).bind fun t => (if t < 0 then slices_BinarySearchFunc_impl_row_impl_row_impl_Key.bsL k l b0 b1 ((lo + hi) / 2 + 1) hi else slices_BinarySearchFunc_impl_row_impl_row_impl_Key.bsL k l b0 b1 lo ((lo + hi) / 2)) else some lo) else none
def slices_BinarySearchFunc_impl_row_impl_row_impl_Key.f (k : Nat) (l : List RwT) (b0 : Int) (b1 : ByteArray) : Option (Int × Bool) := (slices_BinarySearchFunc_impl_row_impl_row_impl_Key.bsL k l b0 b1 0 l.length).bind fun i => (if 0 ≤ i ∧ l.length ≤ 4096 then (if i < (l.length : Int) then (impl_compareKeys.f k (rd_T101 l i).f0.f0.f0 (rd_T101 l i).f0.f0.f1 b0 b1).bind fun t => some (i, t == 0) else some (i, false)) else none)
set_option maxHeartbeats 16000000 in
set_option maxRecDepth 100000 in
theorem slices_BinarySearchFunc_impl_row_impl_row_impl_Key.search (k : Nat) (A : Option Addr) (c : Nat) (l : List RwT) (b0 : Int) (b1 : ByteArray) (gb go : Nat) (i : Int) (fd : Bool) (w : World) (hO : slices_BinarySearchFunc_impl_row_impl_row_impl_Key.Ord w gb go) (hR : Kd.C k101 w A l.length l) (h : slices_BinarySearchFunc_impl_row_impl_row_impl_Key.f k l b0 b1 = some (i, fd)) :
 Calls Tryd.prog 151 #[.slice A l.length c, .agg #[.int .i64 b0, .string b1], .func (.func 152) #[] #[.pointer (some ⟨gb, 0, none⟩)]] w fun e w' => e = .returned (.tuple #[.int .i64 i, .bool fd]) ∧ Below w.heap.size w w' := by
 have hu := Tryd.underlying101
 have hu3 := Tryd.underlying29
 unfold slices_BinarySearchFunc_impl_row_impl_row_impl_Key.f at h
 obtain ⟨j, hj, h⟩ := Option.bind_eq_some_iff.mp h
 have HJ := Aside0.mk hj
 have H := Aside0.mk h
 have HO := Aside0.mk hO
 have HR := Aside0.mk hR
 clear hj h hO hR
 go_enter Tryd.func151, Tryd.ntmps151
 go_wp2
 have hB1 : Below w.heap.size w (w.alloc (.cells #[.int .i64 b0, .string b1] 29)) := by repeat (first | exact Below.refl _ _ | apply below_alloc)
 have HB1 := Aside0.mk hB1
 clear hB1
 go_loopg [9, 10] k (fun kq v9 v10 w' => ∃ lo hi : Int, v9 = .int .i64 lo ∧ v10 = .int .i64 hi ∧ Aside0 (slices_BinarySearchFunc_impl_row_impl_row_impl_Key.bsL kq l b0 b1 lo hi = some j) ∧ Aside0 (kq ≤ k) ∧ Aside0 (w'.heap[w.heap.size]? = some (.cells #[.int .i64 b0, .string b1] 29 (0, 0))) ∧ Aside0 (Below w.heap.size w w'))
 case atStart => exact ⟨0, l.length, rfl, rfl, HJ, ⟨Nat.le_refl _⟩, ⟨blk_new _ _⟩, HB1⟩
 case round =>
  clear HJ HB1
  obtain ⟨lo, hi, rfl, rfl, HA, HK, BK, HB⟩ := hrel
  cases gk with
  | zero => exact absurd HA.out (by simp [slices_BinarySearchFunc_impl_row_impl_row_impl_Key.bsL])
  | succ k1 =>
   have ha := HA.out
   clear HA
   simp only [slices_BinarySearchFunc_impl_row_impl_row_impl_Key.bsL] at ha
   by_cases g : 0 ≤ lo ∧ hi ≤ (l.length : Int) ∧ l.length ≤ 4096
   ·
    rw [if_pos g] at ha
    by_cases c1 : lo < hi
    ·
     rw [if_pos c1] at ha
     have c1b : decide (lo < hi) = true := decide_eq_true c1
     obtain ⟨t, ht, ha⟩ := Option.bind_eq_some_iff.mp ha
     have HT := Aside0.mk ht
     have HA := Aside0.mk ha
     have G := Aside0.mk (And.intro g c1)
     clear ht ha g c1
     have hm : wrap64 (IntKind.u64.wrap (wrap64 (lo + hi)) / 2) = (lo + hi) / 2 := by have := G.out; rw [IntKind.wrap_u64]; unfold wrap64; omega
     have HM := Aside0.mk hm
     clear hm
     go_wp2
     rw [HM.out]
     have p0 : (0 ≤ (lo + hi) / 2) = True := eq_true (by have := G.out; omega)
     have q0 : ((lo + hi) / 2 < (l.length : Int)) = True := eq_true (by have := G.out; omega)
     have HM2 := Aside0.mk (show wrap64 ((lo + hi) / 2 + 1) = (lo + hi) / 2 + 1 by have := G.out; unfold wrap64; omega)
     generalize (lo + hi) / 2 = m at p0 q0 HT HA HM2 ⊢
     obtain ⟨ad, A6, c6, eA, hx0, hx1, hx2, hx3, hx4, hx5, hx6, hx7, hx8, _⟩ := at_T101 HR.out m (of_eq_true p0) (of_eq_true q0)
     cases eA
     replace hx0 := bcl HB hx0
     replace hx1 := bcl HB hx1
     replace hx2 := bcl HB hx2
     replace hx3 := bcl HB hx3
     replace hx4 := bcl HB hx4
     replace hx5 := bcl HB hx5
     replace hx6 := bcl HB hx6
     replace hx7 := bcl HB hx7
     replace hx8 := bcl HB hx8
     by_cases ct : t < 0
     ·
      have cE : decide (t < 0) = true := decide_eq_true ct
      have ha := HA.out
      rw [if_pos ct] at ha
      have HA2 := Aside0.mk ha
      clear ha ct HA
      refine start_ (n := 8) (S := fun w' => w'.cell? (ad.add ((m).toNat * 9)) = some (.int .i64 (rd_T101 l m).f0.f0.f0) ∧ w'.cell? (⟨(ad.add ((m).toNat * 9)).block, (ad.add ((m).toNat * 9)).off + 1, none⟩) = some (.string (rd_T101 l m).f0.f0.f1) ∧ w'.cell? (⟨(ad.add ((m).toNat * 9)).block, (ad.add ((m).toNat * 9)).off + 2, none⟩) = some (.int .i64 (rd_T101 l m).f0.f1) ∧ w'.cell? (⟨(ad.add ((m).toNat * 9)).block, (ad.add ((m).toNat * 9)).off + 3, none⟩) = some (.int .i64 (rd_T101 l m).f1) ∧ w'.cell? (⟨(ad.add ((m).toNat * 9)).block, (ad.add ((m).toNat * 9)).off + 4, none⟩) = some (.bool (rd_T101 l m).f2) ∧ w'.cell? (⟨(ad.add ((m).toNat * 9)).block, (ad.add ((m).toNat * 9)).off + 5, none⟩) = some (.string (rd_T101 l m).f3) ∧ w'.cell? (⟨(ad.add ((m).toNat * 9)).block, (ad.add ((m).toNat * 9)).off + 6, none⟩) = some (.slice A6 (rd_T101 l m).f4.length c6) ∧ w'.cell? (⟨(ad.add ((m).toNat * 9)).block, (ad.add ((m).toNat * 9)).off + 7, none⟩) = some (.int .i64 (rd_T101 l m).f5) ∧ w'.cell? (⟨(ad.add ((m).toNat * 9)).block, (ad.add ((m).toNat * 9)).off + 8, none⟩) = some (.int .i64 (rd_T101 l m).f6) ∧ w'.cell? ⟨w.heap.size, 0, none⟩ = some (.int .i64 b0) ∧ w'.cell? ⟨w.heap.size, 1, none⟩ = some (.string b1)) (ds := []) #[false, false, false, false, false, false, false, false] (by kernel_rfl) rfl rfl ⟨hx0, hx1, hx2, hx3, hx4, hx5, hx6, hx7, hx8, (blk_cell BK.out 0).trans rfl, (blk_cell BK.out 1).trans rfl⟩ (fun hHeld => ?_)
      refine pureY (i := 0) (N := some 24) (v := ?_) (a' := ?_) #[true, false, false, false, false, false, false, false] rfl rfl (by kernel_rfl) ⟨by rfl, ?_⟩ ?_ ?_
      rotate_left
      · intro w'
        go_simp
        with_reducible rfl
      rotate_left
      · simp only [Act.put, sA_, i64_w, i32_w]
        rfl
      refine pureY (i := 1) (N := some 25) (v := ?_) (a' := ?_) #[true, true, false, false, false, false, false, false] rfl rfl (by kernel_rfl) ⟨by rfl, ?_⟩ ?_ ?_
      rotate_left
      · intro w'
        go_simp
        with_reducible rfl
      rotate_left
      · simp only [Act.put, sA_, i64_w, i32_w]
        rfl
      refine pureY (i := 2) (N := some 26) (v := ?_) (a' := ?_) #[true, true, true, false, false, false, false, false] rfl rfl (by kernel_rfl) ⟨by rfl, ?_⟩ ?_ ?_
      rotate_left
      · intro w'
        go_simp
        with_reducible rfl
      rotate_left
      · simp only [Act.put, sA_, i64_w, i32_w]
        rfl
      refine pureY (i := 3) (N := some 27) (v := ?_) (a' := ?_) #[true, true, true, true, false, false, false, false] rfl rfl (by kernel_rfl) ⟨by rfl, ?_⟩ ?_ ?_
      rotate_left
      · intro w'
        go_simp
        with_reducible rfl
      rotate_left
      · simp only [Act.put, sA_, i64_w, i32_w]
        rfl
      refine takeY (i := 4) (N := some 28) (v := ?_) (a' := ?_) #[true, true, true, true, true, false, false, false] rfl rfl (by kernel_rfl) ⟨by rfl, ?_⟩ hHeld ?_ ?_
      rotate_left
      · rintro w' ⟨s0, s1, s2, s3, s4, s5, s6, s7, s8, s9, s10⟩
        go_simp
        with_reducible rfl
      rotate_left
      · simp only [Act.put, sA_, i64_w, i32_w]
        rfl
      refine takeY (i := 5) (N := some 29) (v := ?_) (a' := ?_) #[true, true, true, true, true, true, false, false] rfl rfl (by kernel_rfl) ⟨by rfl, ?_⟩ hHeld ?_ ?_
      rotate_left
      · rintro w' ⟨s0, s1, s2, s3, s4, s5, s6, s7, s8, s9, s10⟩
        go_simp
        with_reducible rfl
      rotate_left
      · simp only [Act.put, sA_, i64_w, i32_w]
        rfl
      refine one_ (i := 6) (N := some 30) #[true, true, true, true, true, true, true, false] rfl rfl (by kernel_rfl) (by decide) (fun K hK => ?_)
      refine callv_ #[.pointer (some ⟨gb, 0, none⟩)] Tryd.func152 rfl rfl #[.agg #[.int .i64 (rd_T101 l m).f0.f0.f0, .string (rd_T101 l m).f0.f0.f1, .int .i64 (rd_T101 l m).f0.f1, .int .i64 (rd_T101 l m).f1, .bool (rd_T101 l m).f2, .string (rd_T101 l m).f3, .slice A6 (rd_T101 l m).f4.length c6, .int .i64 (rd_T101 l m).f5, .int .i64 (rd_T101 l m).f6], .agg #[.int .i64 b0, .string b1], .pointer (some ⟨gb, 0, none⟩)] rfl rfl rfl rfl (by (try simp only [List.map_toArray, List.map_cons, List.map_nil, List.append_toArray, List.append_nil, List.nil_append, List.cons_append]); rfl) ?_
      refine (slices_BinarySearchFunc_impl_row_impl_row_impl_Key.cmp _ _ _ _ _ _ _ _ _ _ _ _ b0 b1 gb go _ _ (by exact (HO.out.keep (HB.out.drew))) HT.out).mono ?_
      rintro e w6 ⟨rfl, hb6⟩
      refine ⟨_, rfl, ?_⟩
      refine hK.out _ _ ⟨pw_cell_below hb6 hHeld.1, pw_cell_below hb6 hHeld.2.1, pw_cell_below hb6 hHeld.2.2.1, pw_cell_below hb6 hHeld.2.2.2.1, pw_cell_below hb6 hHeld.2.2.2.2.1, pw_cell_below hb6 hHeld.2.2.2.2.2.1, pw_cell_below hb6 hHeld.2.2.2.2.2.2.1, pw_cell_below hb6 hHeld.2.2.2.2.2.2.2.1, pw_cell_below hb6 hHeld.2.2.2.2.2.2.2.2.1, pw_cell_below hb6 hHeld.2.2.2.2.2.2.2.2.2.1, pw_cell_below hb6 hHeld.2.2.2.2.2.2.2.2.2.2⟩ (fun hHeld => ?_)
      clear hK K
      refine norm_ (a' := ?_) ?_ ?_
      rotate_left
      · show Act.put _ (some 30) _ = _
        simp only [Act.put, sA_, i64_w, i32_w]
        rfl
      have HB6 := Aside0.mk (below_step (below_drew1 HB.out) hb6)
      have BK6 := Aside0.mk (blk_below (blk_drew BK.out) hb6)
      clear hb6
      refine pureY (i := 7) (N := some 31) (v := ?_) (a' := ?_) #[true, true, true, true, true, true, true, true] rfl rfl (by kernel_rfl) ⟨by rfl, ?_⟩ ?_ ?_
      rotate_left
      · intro w'
        go_simp
        with_reducible rfl
      rotate_left
      · simp only [Act.put, sA_, i64_w, i32_w]
        rfl
      refine done_ (by kernel_rfl) ?_
      clear hHeld hx0 hx1 hx2 hx3 hx4 hx5 hx6 hx7 hx8
      go_wp2
      go_roundg k1
      case measure => have := HK.out; omega
      case rel => exact ⟨m + 1, hi, by rw [HM2.out], rfl, HA2, ⟨by have := HK.out; omega⟩, BK6, HB6⟩
     have cE : decide (t < 0) = false := decide_eq_false ct
     have ha := HA.out
     rw [if_neg ct] at ha
     have HA2 := Aside0.mk ha
     clear ha ct HA
     refine start_ (n := 8) (S := fun w' => w'.cell? (ad.add ((m).toNat * 9)) = some (.int .i64 (rd_T101 l m).f0.f0.f0) ∧ w'.cell? (⟨(ad.add ((m).toNat * 9)).block, (ad.add ((m).toNat * 9)).off + 1, none⟩) = some (.string (rd_T101 l m).f0.f0.f1) ∧ w'.cell? (⟨(ad.add ((m).toNat * 9)).block, (ad.add ((m).toNat * 9)).off + 2, none⟩) = some (.int .i64 (rd_T101 l m).f0.f1) ∧ w'.cell? (⟨(ad.add ((m).toNat * 9)).block, (ad.add ((m).toNat * 9)).off + 3, none⟩) = some (.int .i64 (rd_T101 l m).f1) ∧ w'.cell? (⟨(ad.add ((m).toNat * 9)).block, (ad.add ((m).toNat * 9)).off + 4, none⟩) = some (.bool (rd_T101 l m).f2) ∧ w'.cell? (⟨(ad.add ((m).toNat * 9)).block, (ad.add ((m).toNat * 9)).off + 5, none⟩) = some (.string (rd_T101 l m).f3) ∧ w'.cell? (⟨(ad.add ((m).toNat * 9)).block, (ad.add ((m).toNat * 9)).off + 6, none⟩) = some (.slice A6 (rd_T101 l m).f4.length c6) ∧ w'.cell? (⟨(ad.add ((m).toNat * 9)).block, (ad.add ((m).toNat * 9)).off + 7, none⟩) = some (.int .i64 (rd_T101 l m).f5) ∧ w'.cell? (⟨(ad.add ((m).toNat * 9)).block, (ad.add ((m).toNat * 9)).off + 8, none⟩) = some (.int .i64 (rd_T101 l m).f6) ∧ w'.cell? ⟨w.heap.size, 0, none⟩ = some (.int .i64 b0) ∧ w'.cell? ⟨w.heap.size, 1, none⟩ = some (.string b1)) (ds := []) #[false, false, false, false, false, false, false, false] (by kernel_rfl) rfl rfl ⟨hx0, hx1, hx2, hx3, hx4, hx5, hx6, hx7, hx8, (blk_cell BK.out 0).trans rfl, (blk_cell BK.out 1).trans rfl⟩ (fun hHeld => ?_)
     refine pureY (i := 0) (N := some 24) (v := ?_) (a' := ?_) #[true, false, false, false, false, false, false, false] rfl rfl (by kernel_rfl) ⟨by rfl, ?_⟩ ?_ ?_
     rotate_left
     · intro w'
       go_simp
       with_reducible rfl
     rotate_left
     · simp only [Act.put, sA_, i64_w, i32_w]
       rfl
     refine pureY (i := 1) (N := some 25) (v := ?_) (a' := ?_) #[true, true, false, false, false, false, false, false] rfl rfl (by kernel_rfl) ⟨by rfl, ?_⟩ ?_ ?_
     rotate_left
     · intro w'
       go_simp
       with_reducible rfl
     rotate_left
     · simp only [Act.put, sA_, i64_w, i32_w]
       rfl
     refine pureY (i := 2) (N := some 26) (v := ?_) (a' := ?_) #[true, true, true, false, false, false, false, false] rfl rfl (by kernel_rfl) ⟨by rfl, ?_⟩ ?_ ?_
     rotate_left
     · intro w'
       go_simp
       with_reducible rfl
     rotate_left
     · simp only [Act.put, sA_, i64_w, i32_w]
       rfl
     refine pureY (i := 3) (N := some 27) (v := ?_) (a' := ?_) #[true, true, true, true, false, false, false, false] rfl rfl (by kernel_rfl) ⟨by rfl, ?_⟩ ?_ ?_
     rotate_left
     · intro w'
       go_simp
       with_reducible rfl
     rotate_left
     · simp only [Act.put, sA_, i64_w, i32_w]
       rfl
     refine takeY (i := 4) (N := some 28) (v := ?_) (a' := ?_) #[true, true, true, true, true, false, false, false] rfl rfl (by kernel_rfl) ⟨by rfl, ?_⟩ hHeld ?_ ?_
     rotate_left
     · rintro w' ⟨s0, s1, s2, s3, s4, s5, s6, s7, s8, s9, s10⟩
       go_simp
       with_reducible rfl
     rotate_left
     · simp only [Act.put, sA_, i64_w, i32_w]
       rfl
     refine takeY (i := 5) (N := some 29) (v := ?_) (a' := ?_) #[true, true, true, true, true, true, false, false] rfl rfl (by kernel_rfl) ⟨by rfl, ?_⟩ hHeld ?_ ?_
     rotate_left
     · rintro w' ⟨s0, s1, s2, s3, s4, s5, s6, s7, s8, s9, s10⟩
       go_simp
       with_reducible rfl
     rotate_left
     · simp only [Act.put, sA_, i64_w, i32_w]
       rfl
     refine one_ (i := 6) (N := some 30) #[true, true, true, true, true, true, true, false] rfl rfl (by kernel_rfl) (by decide) (fun K hK => ?_)
     refine callv_ #[.pointer (some ⟨gb, 0, none⟩)] Tryd.func152 rfl rfl #[.agg #[.int .i64 (rd_T101 l m).f0.f0.f0, .string (rd_T101 l m).f0.f0.f1, .int .i64 (rd_T101 l m).f0.f1, .int .i64 (rd_T101 l m).f1, .bool (rd_T101 l m).f2, .string (rd_T101 l m).f3, .slice A6 (rd_T101 l m).f4.length c6, .int .i64 (rd_T101 l m).f5, .int .i64 (rd_T101 l m).f6], .agg #[.int .i64 b0, .string b1], .pointer (some ⟨gb, 0, none⟩)] rfl rfl rfl rfl (by (try simp only [List.map_toArray, List.map_cons, List.map_nil, List.append_toArray, List.append_nil, List.nil_append, List.cons_append]); rfl) ?_
     refine (slices_BinarySearchFunc_impl_row_impl_row_impl_Key.cmp _ _ _ _ _ _ _ _ _ _ _ _ b0 b1 gb go _ _ (by exact (HO.out.keep (HB.out.drew))) HT.out).mono ?_
     rintro e w6 ⟨rfl, hb6⟩
     refine ⟨_, rfl, ?_⟩
     refine hK.out _ _ ⟨pw_cell_below hb6 hHeld.1, pw_cell_below hb6 hHeld.2.1, pw_cell_below hb6 hHeld.2.2.1, pw_cell_below hb6 hHeld.2.2.2.1, pw_cell_below hb6 hHeld.2.2.2.2.1, pw_cell_below hb6 hHeld.2.2.2.2.2.1, pw_cell_below hb6 hHeld.2.2.2.2.2.2.1, pw_cell_below hb6 hHeld.2.2.2.2.2.2.2.1, pw_cell_below hb6 hHeld.2.2.2.2.2.2.2.2.1, pw_cell_below hb6 hHeld.2.2.2.2.2.2.2.2.2.1, pw_cell_below hb6 hHeld.2.2.2.2.2.2.2.2.2.2⟩ (fun hHeld => ?_)
     clear hK K
     refine norm_ (a' := ?_) ?_ ?_
     rotate_left
     · show Act.put _ (some 30) _ = _
       simp only [Act.put, sA_, i64_w, i32_w]
       rfl
     have HB6 := Aside0.mk (below_step (below_drew1 HB.out) hb6)
     have BK6 := Aside0.mk (blk_below (blk_drew BK.out) hb6)
     clear hb6
     refine pureY (i := 7) (N := some 31) (v := ?_) (a' := ?_) #[true, true, true, true, true, true, true, true] rfl rfl (by kernel_rfl) ⟨by rfl, ?_⟩ ?_ ?_
     rotate_left
     · intro w'
       go_simp
       with_reducible rfl
     rotate_left
     · simp only [Act.put, sA_, i64_w, i32_w]
       rfl
     refine done_ (by kernel_rfl) ?_
     clear hHeld hx0 hx1 hx2 hx3 hx4 hx5 hx6 hx7 hx8
     go_wp2
     go_roundg k1
     case measure => have := HK.out; omega
     case rel => exact ⟨lo, m, rfl, rfl, HA2, ⟨by have := HK.out; omega⟩, BK6, HB6⟩
    rw [if_neg c1] at ha
    obtain rfl := Option.some.inj ha
    have h := H.out
    rw [if_pos ⟨g.1, g.2.2⟩] at h
    have c1b : decide (lo < hi) = false := decide_eq_false c1
    have p0 : (0 ≤ lo) = True := eq_true g.1
    clear ha g c1 H
    by_cases c2 : lo < (l.length : Int)
    ·
     rw [if_pos c2] at h
     obtain ⟨t, ht, h⟩ := Option.bind_eq_some_iff.mp h
     simp only [Option.some.injEq, Prod.mk.injEq] at h
     obtain ⟨rfl, rfl⟩ := h
     have HT := Aside0.mk ht
     have c2b : decide (lo < (l.length : Int)) = true := decide_eq_true c2
     have q0 : (lo < (l.length : Int)) = True := eq_true c2
     clear ht c2
     obtain ⟨ad, A6, c6, eA, hx0, hx1, hx2, hx3, hx4, hx5, hx6, hx7, hx8, _⟩ := at_T101 HR.out lo (of_eq_true p0) (of_eq_true q0)
     cases eA
     replace hx0 := bcl HB hx0
     replace hx1 := bcl HB hx1
     replace hx2 := bcl HB hx2
     replace hx3 := bcl HB hx3
     replace hx4 := bcl HB hx4
     replace hx5 := bcl HB hx5
     replace hx6 := bcl HB hx6
     replace hx7 := bcl HB hx7
     replace hx8 := bcl HB hx8
     go_wp2
     refine start_ (n := 16) (S := fun w' => w'.cell? (ad.add ((lo).toNat * 9)) = some (.int .i64 (rd_T101 l lo).f0.f0.f0) ∧ w'.cell? (⟨(ad.add ((lo).toNat * 9)).block, (ad.add ((lo).toNat * 9)).off + 1, none⟩) = some (.string (rd_T101 l lo).f0.f0.f1) ∧ w'.cell? (⟨(ad.add ((lo).toNat * 9)).block, (ad.add ((lo).toNat * 9)).off + 2, none⟩) = some (.int .i64 (rd_T101 l lo).f0.f1) ∧ w'.cell? (⟨(ad.add ((lo).toNat * 9)).block, (ad.add ((lo).toNat * 9)).off + 3, none⟩) = some (.int .i64 (rd_T101 l lo).f1) ∧ w'.cell? (⟨(ad.add ((lo).toNat * 9)).block, (ad.add ((lo).toNat * 9)).off + 4, none⟩) = some (.bool (rd_T101 l lo).f2) ∧ w'.cell? (⟨(ad.add ((lo).toNat * 9)).block, (ad.add ((lo).toNat * 9)).off + 5, none⟩) = some (.string (rd_T101 l lo).f3) ∧ w'.cell? (⟨(ad.add ((lo).toNat * 9)).block, (ad.add ((lo).toNat * 9)).off + 6, none⟩) = some (.slice A6 (rd_T101 l lo).f4.length c6) ∧ w'.cell? (⟨(ad.add ((lo).toNat * 9)).block, (ad.add ((lo).toNat * 9)).off + 7, none⟩) = some (.int .i64 (rd_T101 l lo).f5) ∧ w'.cell? (⟨(ad.add ((lo).toNat * 9)).block, (ad.add ((lo).toNat * 9)).off + 8, none⟩) = some (.int .i64 (rd_T101 l lo).f6) ∧ w'.cell? ⟨w.heap.size, 0, none⟩ = some (.int .i64 b0) ∧ w'.cell? ⟨w.heap.size, 1, none⟩ = some (.string b1)) (ds := []) #[false, false, false, false, false, false, false, false, false, false, false, false, false, false, false, false] (by kernel_rfl) rfl rfl ⟨hx0, hx1, hx2, hx3, hx4, hx5, hx6, hx7, hx8, (blk_cell BK.out 0).trans rfl, (blk_cell BK.out 1).trans rfl⟩ (fun hHeld => ?_)
     refine pureY (i := 0) (N := some 35) (v := ?_) (a' := ?_) #[true, false, false, false, false, false, false, false, false, false, false, false, false, false, false, false] rfl rfl (by kernel_rfl) ⟨by rfl, ?_⟩ ?_ ?_
     rotate_left
     · intro w'
       go_simp
       with_reducible rfl
     rotate_left
     · simp only [Act.put, sA_, i64_w, i32_w]
       rfl
     refine pureY (i := 1) (N := some 36) (v := ?_) (a' := ?_) #[true, true, false, false, false, false, false, false, false, false, false, false, false, false, false, false] rfl rfl (by kernel_rfl) ⟨by rfl, ?_⟩ ?_ ?_
     rotate_left
     · intro w'
       go_simp
       with_reducible rfl
     rotate_left
     · simp only [Act.put, sA_, i64_w, i32_w]
       rfl
     refine pureY (i := 2) (N := some 37) (v := ?_) (a' := ?_) #[true, true, true, false, false, false, false, false, false, false, false, false, false, false, false, false] rfl rfl (by kernel_rfl) ⟨by rfl, ?_⟩ ?_ ?_
     rotate_left
     · intro w'
       go_simp
       with_reducible rfl
     rotate_left
     · simp only [Act.put, sA_, i64_w, i32_w]
       rfl
     refine pureY (i := 3) (N := some 38) (v := ?_) (a' := ?_) #[true, true, true, true, false, false, false, false, false, false, false, false, false, false, false, false] rfl rfl (by kernel_rfl) ⟨by rfl, ?_⟩ ?_ ?_
     rotate_left
     · intro w'
       go_simp
       with_reducible rfl
     rotate_left
     · simp only [Act.put, sA_, i64_w, i32_w]
       rfl
     refine pureY (i := 4) (N := some 39) (v := ?_) (a' := ?_) #[true, true, true, true, true, false, false, false, false, false, false, false, false, false, false, false] rfl rfl (by kernel_rfl) ⟨by rfl, ?_⟩ ?_ ?_
     rotate_left
     · intro w'
       go_simp
       with_reducible rfl
     rotate_left
     · simp only [Act.put, sA_, i64_w, i32_w]
       rfl
     refine pureY (i := 5) (N := some 40) (v := ?_) (a' := ?_) #[true, true, true, true, true, true, false, false, false, false, false, false, false, false, false, false] rfl rfl (by kernel_rfl) ⟨by rfl, ?_⟩ ?_ ?_
     rotate_left
     · intro w'
       go_simp
       with_reducible rfl
     rotate_left
     · simp only [Act.put, sA_, i64_w, i32_w]
       rfl
     refine pureY (i := 6) (N := some 41) (v := ?_) (a' := ?_) #[true, true, true, true, true, true, true, false, false, false, false, false, false, false, false, false] rfl rfl (by kernel_rfl) ⟨by rfl, ?_⟩ ?_ ?_
     rotate_left
     · intro w'
       go_simp
       with_reducible rfl
     rotate_left
     · simp only [Act.put, sA_, i64_w, i32_w]
       rfl
     refine pureY (i := 7) (N := some 42) (v := ?_) (a' := ?_) #[true, true, true, true, true, true, true, true, false, false, false, false, false, false, false, false] rfl rfl (by kernel_rfl) ⟨by rfl, ?_⟩ ?_ ?_
     rotate_left
     · intro w'
       go_simp
       with_reducible rfl
     rotate_left
     · simp only [Act.put, sA_, i64_w, i32_w]
       rfl
     refine pureY (i := 8) (N := some 43) (v := ?_) (a' := ?_) #[true, true, true, true, true, true, true, true, true, false, false, false, false, false, false, false] rfl rfl (by kernel_rfl) ⟨by rfl, ?_⟩ ?_ ?_
     rotate_left
     · intro w'
       go_simp
       with_reducible rfl
     rotate_left
     · simp only [Act.put, sA_, i64_w, i32_w]
       rfl
     refine takeY (i := 9) (N := some 44) (v := ?_) (a' := ?_) #[true, true, true, true, true, true, true, true, true, true, false, false, false, false, false, false] rfl rfl (by kernel_rfl) ⟨by rfl, ?_⟩ hHeld ?_ ?_
     rotate_left
     · rintro w' ⟨s0, s1, s2, s3, s4, s5, s6, s7, s8, s9, s10⟩
       go_simp
       with_reducible rfl
     rotate_left
     · simp only [Act.put, sA_, i64_w, i32_w]
       rfl
     refine takeY (i := 10) (N := some 45) (v := ?_) (a' := ?_) #[true, true, true, true, true, true, true, true, true, true, true, false, false, false, false, false] rfl rfl (by kernel_rfl) ⟨by rfl, ?_⟩ hHeld ?_ ?_
     rotate_left
     · rintro w' ⟨s0, s1, s2, s3, s4, s5, s6, s7, s8, s9, s10⟩
       go_simp
       with_reducible rfl
     rotate_left
     · simp only [Act.put, sA_, i64_w, i32_w]
       rfl
     refine one_ (i := 11) (N := some 46) #[true, true, true, true, true, true, true, true, true, true, true, true, false, false, false, false] rfl rfl (by kernel_rfl) (by decide) (fun K hK => ?_)
     refine callv_ #[.pointer (some ⟨gb, 0, none⟩)] Tryd.func152 rfl rfl #[.agg #[.int .i64 (rd_T101 l lo).f0.f0.f0, .string (rd_T101 l lo).f0.f0.f1, .int .i64 (rd_T101 l lo).f0.f1, .int .i64 (rd_T101 l lo).f1, .bool (rd_T101 l lo).f2, .string (rd_T101 l lo).f3, .slice A6 (rd_T101 l lo).f4.length c6, .int .i64 (rd_T101 l lo).f5, .int .i64 (rd_T101 l lo).f6], .agg #[.int .i64 b0, .string b1], .pointer (some ⟨gb, 0, none⟩)] rfl rfl rfl rfl (by (try simp only [List.map_toArray, List.map_cons, List.map_nil, List.append_toArray, List.append_nil, List.nil_append, List.cons_append]); rfl) ?_
     refine (slices_BinarySearchFunc_impl_row_impl_row_impl_Key.cmp _ _ _ _ _ _ _ _ _ _ _ _ b0 b1 gb go _ _ (by exact (HO.out.keep (HB.out.drew))) HT.out).mono ?_
     rintro e w6 ⟨rfl, hb6⟩
     refine ⟨_, rfl, ?_⟩
     refine hK.out _ _ ⟨pw_cell_below hb6 hHeld.1, pw_cell_below hb6 hHeld.2.1, pw_cell_below hb6 hHeld.2.2.1, pw_cell_below hb6 hHeld.2.2.2.1, pw_cell_below hb6 hHeld.2.2.2.2.1, pw_cell_below hb6 hHeld.2.2.2.2.2.1, pw_cell_below hb6 hHeld.2.2.2.2.2.2.1, pw_cell_below hb6 hHeld.2.2.2.2.2.2.2.1, pw_cell_below hb6 hHeld.2.2.2.2.2.2.2.2.1, pw_cell_below hb6 hHeld.2.2.2.2.2.2.2.2.2.1, pw_cell_below hb6 hHeld.2.2.2.2.2.2.2.2.2.2⟩ (fun hHeld => ?_)
     clear hK K
     refine norm_ (a' := ?_) ?_ ?_
     rotate_left
     · show Act.put _ (some 46) _ = _
       simp only [Act.put, sA_, i64_w, i32_w]
       rfl
     have HB6 := Aside0.mk (below_step (below_drew1 HB.out) hb6)
     have BK6 := Aside0.mk (blk_below (blk_drew BK.out) hb6)
     clear hb6
     refine pureY (i := 12) (N := some 47) (v := ?_) (a' := ?_) #[true, true, true, true, true, true, true, true, true, true, true, true, true, false, false, false] rfl rfl (by kernel_rfl) ⟨by rfl, ?_⟩ ?_ ?_
     rotate_left
     · intro w'
       go_simp
       with_reducible rfl
     rotate_left
     · simp only [Act.put, sA_, i64_w, i32_w]
       rfl
     refine pureY (i := 13) (N := some 48) (v := ?_) (a' := ?_) #[true, true, true, true, true, true, true, true, true, true, true, true, true, true, false, false] rfl rfl (by kernel_rfl) ⟨by rfl, ?_⟩ ?_ ?_
     rotate_left
     · intro w'
       go_simp
       with_reducible rfl
     rotate_left
     · simp only [Act.put, sA_, i64_w, i32_w]
       rfl
     refine pureY (i := 14) (N := some 6) (v := ?_) (a' := ?_) #[true, true, true, true, true, true, true, true, true, true, true, true, true, true, true, false] rfl rfl (by kernel_rfl) ⟨by rfl, ?_⟩ ?_ ?_
     rotate_left
     · intro w'
       go_simp
       with_reducible rfl
     rotate_left
     · simp only [Act.put, sA_, i64_w, i32_w]
       rfl
     refine pureY (i := 15) (N := some 7) (v := ?_) (a' := ?_) #[true, true, true, true, true, true, true, true, true, true, true, true, true, true, true, true] rfl rfl (by kernel_rfl) ⟨by rfl, ?_⟩ ?_ ?_
     rotate_left
     · intro w'
       go_simp
       with_reducible rfl
     rotate_left
     · simp only [Act.put, sA_, i64_w, i32_w]
       rfl
     refine done_ (by kernel_rfl) ?_
     try go_wp2
     go_ret2
     exact ⟨rfl, HB6.out⟩
    rw [if_neg c2] at h
    simp only [Option.some.injEq, Prod.mk.injEq] at h
    obtain ⟨rfl, rfl⟩ := h
    have c2b : decide (lo < (l.length : Int)) = false := decide_eq_false c2
    clear c2
    go_wp2
    refine start_ (n := 16) (S := fun w' => True) (ds := []) #[false, false, false, false, false, false, false, false, false, false, false, false, false, false, false, false] (by kernel_rfl) rfl rfl trivial (fun hHeld => ?_)
    refine pureY (i := 0) (N := some 35) (v := ?_) (a' := ?_) #[true, false, false, false, false, false, false, false, false, false, false, false, false, false, false, false] rfl rfl (by kernel_rfl) ⟨by rfl, ?_⟩ ?_ ?_
    rotate_left
    · intro w'
      go_simp
      with_reducible rfl
    rotate_left
    · simp only [Act.put, sA_, i64_w, i32_w]
      rfl
    refine pureY (i := 1) (N := some 36) (v := ?_) (a' := ?_) #[true, true, false, false, false, false, false, false, false, false, false, false, false, false, false, false] rfl rfl (by kernel_rfl) ⟨by rfl, ?_⟩ ?_ ?_
    rotate_left
    · intro w'
      go_simp
      with_reducible rfl
    rotate_left
    · simp only [Act.put, sA_, i64_w, i32_w]
      rfl
    refine pureY (i := 2) (N := some 37) (v := ?_) (a' := ?_) #[true, true, true, false, false, false, false, false, false, false, false, false, false, false, false, false] rfl rfl (by kernel_rfl) ⟨by rfl, ?_⟩ ?_ ?_
    rotate_left
    · intro w'
      go_simp
      with_reducible rfl
    rotate_left
    · simp only [Act.put, sA_, i64_w, i32_w]
      rfl
    refine pureY (i := 3) (N := some 38) (v := ?_) (a' := ?_) #[true, true, true, true, false, false, false, false, false, false, false, false, false, false, false, false] rfl rfl (by kernel_rfl) ⟨by rfl, ?_⟩ ?_ ?_
    rotate_left
    · intro w'
      go_simp
      with_reducible rfl
    rotate_left
    · simp only [Act.put, sA_, i64_w, i32_w]
      rfl
    refine pureY (i := 4) (N := some 39) (v := ?_) (a' := ?_) #[true, true, true, true, true, false, false, false, false, false, false, false, false, false, false, false] rfl rfl (by kernel_rfl) ⟨by rfl, ?_⟩ ?_ ?_
    rotate_left
    · intro w'
      go_simp
      with_reducible rfl
    rotate_left
    · simp only [Act.put, sA_, i64_w, i32_w]
      rfl
    refine pureN (i := 5) (N := some 40) (a' := ?_) #[true, true, true, true, true, true, false, false, false, false, false, false, false, false, false, false] rfl rfl (by kernel_rfl) ?_ ?_
    rotate_left
    · simp only [Act.put, sA_, i64_w, i32_w]
      rfl
    refine pureN (i := 6) (N := some 41) (a' := ?_) #[true, true, true, true, true, true, true, false, false, false, false, false, false, false, false, false] rfl rfl (by kernel_rfl) ?_ ?_
    rotate_left
    · simp only [Act.put, sA_, i64_w, i32_w]
      rfl
    refine pureN (i := 7) (N := some 42) (a' := ?_) #[true, true, true, true, true, true, true, true, false, false, false, false, false, false, false, false] rfl rfl (by kernel_rfl) ?_ ?_
    rotate_left
    · simp only [Act.put, sA_, i64_w, i32_w]
      rfl
    refine pureN (i := 8) (N := some 43) (a' := ?_) #[true, true, true, true, true, true, true, true, true, false, false, false, false, false, false, false] rfl rfl (by kernel_rfl) ?_ ?_
    rotate_left
    · simp only [Act.put, sA_, i64_w, i32_w]
      rfl
    refine pureN (i := 9) (N := some 44) (a' := ?_) #[true, true, true, true, true, true, true, true, true, true, false, false, false, false, false, false] rfl rfl (by kernel_rfl) ?_ ?_
    rotate_left
    · simp only [Act.put, sA_, i64_w, i32_w]
      rfl
    refine pureN (i := 10) (N := some 45) (a' := ?_) #[true, true, true, true, true, true, true, true, true, true, true, false, false, false, false, false] rfl rfl (by kernel_rfl) ?_ ?_
    rotate_left
    · simp only [Act.put, sA_, i64_w, i32_w]
      rfl
    refine pureN (i := 11) (N := some 46) (a' := ?_) #[true, true, true, true, true, true, true, true, true, true, true, true, false, false, false, false] rfl rfl (by kernel_rfl) ?_ ?_
    rotate_left
    · simp only [Act.put, sA_, i64_w, i32_w]
      rfl
    refine pureN (i := 12) (N := some 47) (a' := ?_) #[true, true, true, true, true, true, true, true, true, true, true, true, true, false, false, false] rfl rfl (by kernel_rfl) ?_ ?_
    rotate_left
    · simp only [Act.put, sA_, i64_w, i32_w]
      rfl
    refine pureY (i := 13) (N := some 48) (v := ?_) (a' := ?_) #[true, true, true, true, true, true, true, true, true, true, true, true, true, true, false, false] rfl rfl (by kernel_rfl) ⟨by rfl, ?_⟩ ?_ ?_
    rotate_left
    · intro w'
      go_simp
      with_reducible rfl
    rotate_left
    · simp only [Act.put, sA_, i64_w, i32_w]
      rfl
    refine pureY (i := 14) (N := some 6) (v := ?_) (a' := ?_) #[true, true, true, true, true, true, true, true, true, true, true, true, true, true, true, false] rfl rfl (by kernel_rfl) ⟨by rfl, ?_⟩ ?_ ?_
    rotate_left
    · intro w'
      go_simp
      with_reducible rfl
    rotate_left
    · simp only [Act.put, sA_, i64_w, i32_w]
      rfl
    refine pureY (i := 15) (N := some 7) (v := ?_) (a' := ?_) #[true, true, true, true, true, true, true, true, true, true, true, true, true, true, true, true] rfl rfl (by kernel_rfl) ⟨by rfl, ?_⟩ ?_ ?_
    rotate_left
    · intro w'
      go_simp
      with_reducible rfl
    rotate_left
    · simp only [Act.put, sA_, i64_w, i32_w]
      rfl
    refine done_ (by kernel_rfl) ?_
    try go_wp2
    go_ret2
    exact ⟨rfl, below_drew1 HB.out⟩
   rw [if_neg g] at ha
   cases ha
end Go.Proofs.YtnbohlcibgfjaaaDoor.Gp
end
