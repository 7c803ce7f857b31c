/- The law FnExactShowOutcome answers true for every input. Condition: none but the row's own: the table of the powers of ten in Go's strconv reads as its initialiser lays it (tied to the program's text by the card). -/
import Derived.Test.YtidgimpdjfmbnaaDoorCards
import Derived.Test.YtidgimpdjfmbnaaDoorTie
import Derived.Test.YtidgimpdjfmbnaaDoorSho14
import Derived.Test.YtidgimpdjfmbnaaDoorSho16
import Derived.Test.YtidgimpdjfmbnaaDoorSho2
import Derived.WalkKit
import Derived.ProofKit
import Derived.OpenShut
import Derived.ShutString
import Derived.ChangeOld
import Derived.Below
import Derived.SizedLaws
import Derived.LaidMore
import Derived.OpenVars
import Derived.SevenTiedAt
import Derived.Stop.Joined
import Derived.Maps.OwnSet
import Derived.Stop.LaidErr
import Derived.Lib.LaidTab
import Derived.Test.YtidgimpdjfmbnaaDoorSho7
section
namespace Go.Proofs.YtidgimpdjfmbnaaDoor.fnExactShowOutcome
open Go.ChangeShapes Go.WideShapes Go.ChangeAt Go.WideMaps Go.WideElems Go.RowKit Go.Maps Go.Proofs.YtidgimpdjfmbnaaDoor.Gp Go.Proofs.YtidgimpdjfmbnaaDoorW.PrintWords
open Go.ChangeMaps (open_string shut_string)
set_option linter.unusedVariables false
set_option linter.unusedSimpArgs false
theorem own : ownKnob Tryd.prog.godebug = none := by kernel_rfl
theorem laidOut : laidOutB Tryd.prog = true := by kernel_rfl
theorem gPow : Tryd.prog.globalNamed "internal/strconv.uint64pow10" = some 1 := by kernel_rfl
theorem tPow : (Tryd.prog.globals[1]?).map (·.type) = some 211 := by kernel_rfl
theorem ePow : (Rows.laid_internal_strconv_uint64pow10 : DataW Unit) = Lib.tabData .u64 Lib.pow10Tab := by kernel_rfl
theorem door_met (os : Os) (args : Array Value) : laidMetH Tryd.prog Rows.fnExactShowOutcomeRow.laid ((World.doorLaid Tryd.prog 400 os).forCall (fun _ _ => 0) ⟨#[], args, []⟩).memory :=
  laidMetH_of_parts3 (fuel := 8) (laidMet_of_run' 8 (by kernel_rfl) (by kernel_rfl)) (by kernel_rfl) (by kernel_rfl)
set_option maxRecDepth 100000 in
theorem of_laid {W : World} (h : laidMetH Tryd.prog Rows.fnExactShowOutcomeRow.laid W) : GPow W := by
  rw [MakeChecks.laidMetH_plain _ _ _ (by kernel_rfl)] at h
  have h2 : laidMet Tryd.prog [("internal/strconv.uint64pow10", Rows.laid_internal_strconv_uint64pow10)] W := laidMet.tail (laidMet.tail h)
  rw [ePow] at h2
  exact ⟨Lib.tabIs_of_head gPow tPow Tryd.underlying211 Tryd.underlying201 (by kernel_rfl) (by kernel_rfl) h2⟩
set_option maxRecDepth 100000 in
theorem lifted (os : Os) (started : os.Started) (H : Type) (enc : TypeId × Value → H) :
    ReturnsInHanded {} Tryd.checked os 3 .any (fun w args => (Rows.fnExactShowOutcomeSpec.pre enc Tryd.prog Tryd.f3 [] false w args ∧ laidMetH Tryd.prog Rows.fnExactShowOutcomeRow.laid w) ∧ sizedMet enc Tryd.prog Tryd.f3 (OpenSpec.ofChange Rows.fnExactShowOutcomeSpec) false w args)
      (Rows.fnExactShowOutcomeSpec.post enc Tryd.prog Tryd.f3 false true false false) := by
  refine returnsInHanded_of_change_and (C := Tryd.checked) (X := fun w _ => laidMetH Tryd.prog Rows.fnExactShowOutcomeRow.laid w) (fun _ _ _ hh h => h.of_heap hh) own started (by kernel_rfl) Tryd.func3
    (ChangeSpec.witness_shaped (enc := enc) (C := Tryd.checked) (os := os) (X := fun w _ => laidMetH Tryd.prog Rows.fnExactShowOutcomeRow.laid w) false (World.doorLaid Tryd.prog 400 os) #[.agg #[.int .i64 0, .slice none 0 0, .slice none 0 0, .int .i64 0, .int .i64 0, .int .i64 0, .slice none 0 0]] 8 rfl (World.shaped_of_RefB (by kernel_rfl) (by kernel_rfl)) (by kernel_rfl) (by kernel_rfl) (by kernel_rfl) (door_met os _)) ?_
  intro W base args ds gs before hval0 hW _ hsz0 hL _
  have hval : ∀ (j : Nat) t v, Tryd.f3.params[j]? = some t → args[j]? = some v → Value.okWide Tryd.prog W .any base t v := hval0
  have hW' := hW
  obtain ⟨p, q, hA0, hV, rfl, hfz, hnd⟩ := hW
  have hA : DataW.TrodAll enc Tryd.prog W 0 (fun _ => true) true Tryd.f3.params.toList args.toList ds p := hA0
  rw [Tryd.params3] at hA hval
  have hG : GPow W := of_laid hL
  obtain ⟨v0, vs0, d0, ds0, p0, q0, hargs, rfl, rfl, h0, r0⟩ := trodAll_cons hA
  obtain ⟨rfl, rfl, rfl⟩ := trodAll_nil r0
  obtain rfl : args = #[v0] := by cases args; simp_all
  obtain rfl : gs = [] := (trodVars_none hV).1
  have k0 := h0
  have lt0 : ∀ x ∈ p0, x.block < W.heap.size := by obtain ⟨m, hm⟩ := k0; exact DataW.trod_lt m _ _ _ hm
  obtain ⟨cs0, rfl, _⟩ := okWide_struct Tryd.underlying28 (hval 0 28 v0 rfl rfl)
  obtain ⟨fuel0, hf0⟩ := h0
  obtain ⟨x0, hK0, hQ0⟩ := ((Opn.struct Tryd.underlying28 (OpnF.cons (Opn.int Tryd.underlying3 (by kernel_rfl)) rfl (OpnF.cons (Opn.slice opn129 Tryd.underlying22 (by kernel_rfl)) rfl (OpnF.cons (Opn.slice opn133 Tryd.underlying23 (by kernel_rfl)) rfl (OpnF.cons (Opn.int Tryd.underlying3 (by kernel_rfl)) rfl (OpnF.cons (Opn.int Tryd.underlying3 (by kernel_rfl)) rfl (OpnF.cons (Opn.int Tryd.underlying3 (by kernel_rfl)) rfl (OpnF.one (Opn.struct Tryd.underlying26 (OpnF.one (Opn.slice opn182 Tryd.underlying24 (by kernel_rfl)) rfl) (by kernel_rfl)) rfl))))))) (by kernel_rfl))).op hf0
  obtain ⟨cl0, hcl0⟩ : ∃ l, l = (Value.cells (.agg cs0)).toList := ⟨_, rfl⟩
  rw [← hcl0] at hK0
  obtain ⟨e0_1, g0_1, rfl, u0_1, v0_1⟩ := hK0
  have z0_1 := hQ0.1
  have y0_1 := hQ0.2
  obtain rfl := u0_1
  obtain ⟨e0_3, g0_3, rfl, u0_3, v0_3⟩ := v0_1
  have z0_3 := y0_1.1
  have y0_3 := y0_1.2
  obtain ⟨A0_4, c0_4, rfl, hle0_4, hC0_4⟩ := u0_3
  obtain ⟨e0_5, g0_5, rfl, u0_5, v0_5⟩ := v0_3
  have z0_5 := y0_3.1
  have y0_5 := y0_3.2
  obtain ⟨A0_6, c0_6, rfl, hle0_6, hC0_6⟩ := u0_5
  obtain ⟨e0_7, g0_7, rfl, u0_7, v0_7⟩ := v0_5
  have z0_7 := y0_5.1
  have y0_7 := y0_5.2
  obtain rfl := u0_7
  obtain ⟨e0_9, g0_9, rfl, u0_9, v0_9⟩ := v0_7
  have z0_9 := y0_7.1
  have y0_9 := y0_7.2
  obtain rfl := u0_9
  obtain ⟨e0_11, g0_11, rfl, u0_11, v0_11⟩ := v0_9
  have z0_11 := y0_9.1
  have y0_11 := y0_9.2
  obtain rfl := u0_11
  obtain ⟨A0_13, c0_13, rfl, hle0_13, hC0_13⟩ := v0_11
  obtain ⟨ls0⟩ := cs0
  simp only [Value.cells, List.nil_append, List.cons_append] at hcl0
  subst hcl0
  clear hA0 hval0
  obtain ⟨k, hk⟩ := (showOutcome_true x0.1 x0.2.1 x0.2.2.1 x0.2.2.2.1 x0.2.2.2.2.1 x0.2.2.2.2.2.1 x0.2.2.2.2.2.2 z0_1 z0_3.1 z0_3.2 z0_5.1 z0_5.2 z0_7 z0_9 z0_11 y0_11.1 y0_11.2).rounds
  refine (laws_FnExactShowOutcome.calls k (x0.1) _ _ (x0.2.1) _ _ (x0.2.2.1) (x0.2.2.2.1) (x0.2.2.2.2.1) (x0.2.2.2.2.2.1) _ _ (x0.2.2.2.2.2.2) true W hG hC0_4 hle0_4 hC0_6 hle0_6 hC0_13 hle0_13 hk).mono ?_
  rintro e W' ⟨rfl, bel⟩
  exact ⟨_, rfl, _, _, _, [], _, _, hW', trodAll_mk1 (shut_bool Tryd.underlying4 _), (trodAll_cons_mk (Below.trod laidOut (by kernel_rfl) (of_decide_eq_true (by kernel_rfl)) k0 bel lt0) trodAll_mk0), Below.trodVars laidOut bel (by kernel_rfl) hV, bel.frame _, fun h => by cases h⟩
theorem holds : Rows.FnExactShowOutcomeSaid :=
  OpenClaim.holds_of_wide 3 Tryd.f3 rfl rfl rfl rfl rfl rfl rfl ⟨rfl, rfl, rfl, rfl, rfl⟩ rfl rfl rfl rfl rfl (by kernel_rfl) Tryd.func3 (by kernel_rfl)
    (of_decide_eq_true (by kernel_rfl)) (by unfold Func.isWrapper; first | (rw [if_pos (by decide +kernel)]; kernel_rfl) | (rw [if_neg (by decide +kernel)]; exact ⟨rfl, rfl⟩))
    (fun os started H enc _ => lifted os started H enc)
theorem plain (f : FuncId) (fn : Func) (hf : Tryd.pinned.checked.prog.funcNamed "loop.example/s15618/laws.FnExactShowOutcome" = some f) (hfn : Tryd.pinned.checked.prog.funcs[f]? = some fn) :
    false = Tryd.pinned.checked.prog.looks [] ∧ ∀ (j : Nat) t, fn.params[j]? = some t → Tryd.pinned.checked.prog.wantsStandIn t = false := by
  obtain rfl : f = 3 := Option.some.inj ((show Tryd.prog.funcNamed "loop.example/s15618/laws.FnExactShowOutcome" = some 3 by kernel_rfl).symm.trans hf) |>.symm
  obtain rfl : fn = Tryd.f3 := (Option.some.inj (Tryd.func3.symm.trans hfn)).symm
  refine ⟨by kernel_rfl, fun j t ht => ?_⟩
  rw [Tryd.params3] at ht
  have hm : t ∈ [28] := by simpa using Array.mem_of_getElem? ht
  have hall : ([28].all fun u => !Tryd.prog.wantsStandIn u) = true := by kernel_rfl
  exact (show Tryd.prog.wantsStandIn t = false by simpa using List.all_eq_true.1 hall t hm)
theorem card : Rows.FnExactShowOutcomeCardSaid :=
  Claim7.holds_tied_plain_at .later [] _ _ _ _ holds (fun _ h => by cases h) (by kernel_rfl) (fun _ h => by cases h) fnExactShowOutcome_row_tie rfl ⟨rfl, rfl⟩ (by kernel_rfl) rfl plain (by kernel_rfl)
end Go.Proofs.YtidgimpdjfmbnaaDoor.fnExactShowOutcome
namespace Go.Proofs.YtidgimpdjfmbnaaDoor
/-- The card, under a short name, for the claim. -/
theorem fnExactShowOutcome_card : Rows.FnExactShowOutcomeCardSaid := fnExactShowOutcome.card
end Go.Proofs.YtidgimpdjfmbnaaDoor
end
