/- The law FnExactClaim answers true for every input. Condition: none but the row's own: the package variable 'reserved' reads as its initialiser lays it (tied to the program's text by the card). -/
import Derived.Test.YtnbohlcibgfjaaaDoorCards
import Derived.Test.YtnbohlcibgfjaaaDoorTie
import Derived.Test.YtnbohlcibgfjaaaDoorClm24
import Derived.Test.YtnbohlcibgfjaaaDoorClm29
import Derived.Test.YtnbohlcibgfjaaaDoorClm28
import Derived.Test.YtnbohlcibgfjaaaDoorClm3
import Derived.WalkKit
import Derived.ProofKit
import Derived.OpenShut
import Derived.ShutString
import Derived.ChangeOld
import Derived.Below
import Derived.SizedLaws
import Derived.LaidMore
import Derived.OpenVars
import Derived.SevenTiedAt
import Derived.Stop.Joined
import Derived.Maps.OwnSet
section
namespace Go.Proofs.YtnbohlcibgfjaaaDoor.fnExactClaim
open Go.ChangeShapes Go.WideShapes Go.ChangeAt Go.WideMaps Go.WideElems Go.RowKit Go.Maps Go.Proofs.YtnbohlcibgfjaaaDoor.Gp Go.Proofs.YtnbohlcibgfjaaaDoorW.PrintWords
open Go.ChangeMaps (open_string shut_string)
set_option linter.unusedVariables false
set_option linter.unusedSimpArgs false
theorem own : ownKnob Tryd.prog.godebug = none := by kernel_rfl
theorem laidOut : laidOutB Tryd.prog = true := by kernel_rfl
theorem gRes : Tryd.prog.globalNamed "loop.example/s15618/impl.reserved" = some 0 := by kernel_rfl
theorem tRes : (Tryd.prog.globals[0]?).map (·.type) = some 200 := by kernel_rfl
theorem door_met (os : Os) (args : Array Value) : laidMetH Tryd.prog Rows.fnExactClaimRow.laid ((World.doorLaid Tryd.prog 400 os).forCall (fun _ _ => 0) ⟨#[], args, []⟩).memory :=
 laidMetH_of_parts3 (fuel := 8) (laidMet_of_run' 8 (by kernel_rfl) (by kernel_rfl)) (by kernel_rfl) (by kernel_rfl)
set_option maxRecDepth 100000 in
theorem of_laid {W : World} (h : laidMetH Tryd.prog Rows.fnExactClaimRow.laid W) : GRes W := by
 rw [MakeChecks.laidMetH_plain _ _ _ (by kernel_rfl)] at h
 obtain ⟨ps, ⟨g0, t0, cs0, f0, p0, q0, hg0, ht0, hv0, hd0, _, _⟩, _, _⟩ := h
 obtain rfl := Option.some.inj (gRes.symm.trans hg0)
 obtain rfl := Option.some.inj (tRes.symm.trans ht0)
 rcases open_map Tryd.underlying200 hd0 with ⟨_, hx⟩ | ⟨bm, es, clock, m, rfl, hcs, hb, _, Fm, hx⟩
 · simp [Rows.laid_loop_example_s15618_impl_reserved] at hx
 simp only [Prod.mk.injEq] at hx
 have hcell : W.cell? ⟨0, 0, none⟩ = some (.map (some bm)) := by
  have := World.var?_cell hg0 hv0 0
  rw [Array.eq_one_of_toList hcs] at this
  simpa using this
 have hown := World.ownsMap_of_fit (R := plainElem Tryd.prog 3) hb Fm (fun x _ z hz => elemAt_plainElem_int Tryd.underlying3 hz)
 have hlen : es.size = 11 := by
  have h1 := congrArg (fun d => match d with | DataW.map l => l.length | _ => 0) hx.1
  simp only [Rows.laid_loop_example_s15618_impl_reserved, length_sorted] at h1
  simpa using h1.symm
 rw [hlen, ← hx.1] at hown
 exact ⟨bm, hcell, hown⟩
set_option maxRecDepth 100000 in
theorem lifted (os : Os) (started : os.Started) (H : Type) (enc : TypeId × Value → H) :
 ReturnsInHanded {} Tryd.checked os 8 .any (fun w args => (Rows.fnExactClaimSpec.pre enc Tryd.prog Tryd.f8 [] false w args ∧ laidMetH Tryd.prog Rows.fnExactClaimRow.laid w) ∧ sizedMet enc Tryd.prog Tryd.f8 (OpenSpec.ofChange Rows.fnExactClaimSpec) false w args)
  (Rows.fnExactClaimSpec.post enc Tryd.prog Tryd.f8 false true false false) := by
 refine returnsInHanded_of_change_and (C := Tryd.checked) (X := fun w _ => laidMetH Tryd.prog Rows.fnExactClaimRow.laid w) (fun _ _ _ hh h => h.of_heap hh) own started (by kernel_rfl) Tryd.func8
  (ChangeSpec.witness_shaped (enc := enc) (C := Tryd.checked) (os := os) (X := fun w _ => laidMetH Tryd.prog Rows.fnExactClaimRow.laid w) false (World.doorLaid Tryd.prog 400 os) #[.agg #[.slice none 0 0], .agg #[.int .i64 0, .string ByteArray.empty], .int .i64 0, .int .i64 0, .int .i64 0] 8 rfl (World.shaped_of_RefB (by kernel_rfl) (by kernel_rfl)) (by kernel_rfl) (by kernel_rfl) (by kernel_rfl) (door_met os _)) ?_
 intro W base args ds gs before hval0 hW _ hsz0 hL _
 have hval : ∀ (j : Nat) t v, Tryd.f8.params[j]? = some t → args[j]? = some v → Value.okWide Tryd.prog W .any base t v := hval0
 have hW' := hW
 obtain ⟨p, q, hA0, hV, rfl, hfz, hnd⟩ := hW
 have hA : DataW.TrodAll enc Tryd.prog W 0 (fun _ => true) true Tryd.f8.params.toList args.toList ds p := hA0
 rw [Tryd.params8] at hA hval
 have hG : GRes W := of_laid hL
 obtain ⟨v0, vs0, d0, ds0, p0, q0, hargs, rfl, rfl, h0, r0⟩ := trodAll_cons hA
 obtain ⟨v1, vs1, d1, ds1, p1, q1, rfl, rfl, rfl, h1, r1⟩ := trodAll_cons r0
 obtain ⟨v2, vs2, d2, ds2, p2, q2, rfl, rfl, rfl, h2, r2⟩ := trodAll_cons r1
 obtain ⟨v3, vs3, d3, ds3, p3, q3, rfl, rfl, rfl, h3, r3⟩ := trodAll_cons r2
 obtain ⟨v4, vs4, d4, ds4, p4, q4, rfl, rfl, rfl, h4, r4⟩ := trodAll_cons r3
 obtain ⟨rfl, rfl, rfl⟩ := trodAll_nil r4
 obtain rfl : args = #[v0, v1, v2, v3, v4] := by cases args; simp_all
 have hgs : ∃ g1, gs = [g1] := by obtain ⟨_, _, _, _, d, _, rfl, _⟩ := trodVars_one hV; exact ⟨d, rfl⟩
 obtain ⟨g1, rfl⟩ := hgs
 have k0 := h0
 have lt0 : ∀ x ∈ p0, x.block < W.heap.size := by obtain ⟨m, hm⟩ := k0; exact DataW.trod_lt m _ _ _ hm
 obtain ⟨cs0, rfl, _⟩ := okWide_struct Tryd.underlying24 (hval 0 24 v0 rfl rfl)
 obtain ⟨fuel0, hf0⟩ := h0
 obtain ⟨x0, hK0, hQ0⟩ := ((Opn.struct Tryd.underlying24 (OpnF.one (Opn.slice opn154 Tryd.underlying22 (by kernel_rfl)) rfl) (by kernel_rfl))).op hf0
 obtain ⟨cl0, hcl0⟩ : ∃ l, l = (Value.cells (.agg cs0)).toList := ⟨_, rfl⟩
 rw [← hcl0] at hK0
 obtain ⟨A0_1, c0_1, rfl, hle0_1, hC0_1⟩ := hK0
 obtain ⟨ls0⟩ := cs0
 simp only [Value.cells, List.nil_append, List.cons_append] at hcl0
 subst hcl0
 have k1 := h1
 have lt1 : ∀ x ∈ p1, x.block < W.heap.size := by obtain ⟨m, hm⟩ := k1; exact DataW.trod_lt m _ _ _ hm
 obtain ⟨cs1, rfl, _⟩ := okWide_struct Tryd.underlying26 (hval 1 26 v1 rfl rfl)
 obtain ⟨fuel1, hf1⟩ := h1
 obtain ⟨x1, hK1, hQ1⟩ := ((Opn.struct Tryd.underlying26 (OpnF.cons (Opn.int Tryd.underlying3 (by kernel_rfl)) rfl (OpnF.one (Opn.string Tryd.underlying9 (by kernel_rfl)) rfl)) (by kernel_rfl))).op hf1
 obtain ⟨cl1, hcl1⟩ : ∃ l, l = (Value.cells (.agg cs1)).toList := ⟨_, rfl⟩
 rw [← hcl1] at hK1
 obtain ⟨e1_1, g1_1, rfl, u1_1, v1_1⟩ := hK1
 have z1_1 := hQ1.1
 have y1_1 := hQ1.2
 obtain rfl := u1_1
 obtain rfl := v1_1
 obtain ⟨ls1⟩ := cs1
 simp only [Value.cells, List.nil_append, List.cons_append] at hcl1
 subst hcl1
 have k2 := h2
 have lt2 : ∀ x ∈ p2, x.block < W.heap.size := by obtain ⟨m, hm⟩ := k2; exact DataW.trod_lt m _ _ _ hm
 obtain ⟨a2, rfl, rfl, rfl, w2⟩ := open_int Tryd.underlying3 (hval 2 3 v2 rfl rfl) h2
 have k3 := h3
 have lt3 : ∀ x ∈ p3, x.block < W.heap.size := by obtain ⟨m, hm⟩ := k3; exact DataW.trod_lt m _ _ _ hm
 obtain ⟨a3, rfl, rfl, rfl, w3⟩ := open_int Tryd.underlying3 (hval 3 3 v3 rfl rfl) h3
 have k4 := h4
 have lt4 : ∀ x ∈ p4, x.block < W.heap.size := by obtain ⟨m, hm⟩ := k4; exact DataW.trod_lt m _ _ _ hm
 obtain ⟨a4, rfl, rfl, rfl, w4⟩ := open_int Tryd.underlying3 (hval 4 3 v4 rfl rfl) h4
 clear hA0 hval0
 obtain ⟨k, hk⟩ := (claim_true x0 x1.1 x1.2 a2 a3 a4 hQ0.1 hQ0.2 z1_1 y1_1 w2 w3 w4).rounds
 refine (laws_FnExactClaim.calls k _ _ (x0) (x1.1) (x1.2) (a2) (a3) (a4) true W hG hC0_1 hle0_1 hk).mono ?_
 rintro e W' ⟨rfl, bel⟩
 exact ⟨_, rfl, _, _, _, [], _, _, hW', trodAll_mk1 (shut_bool Tryd.underlying4 _), (trodAll_cons_mk (Below.trod laidOut (by kernel_rfl) (of_decide_eq_true (by kernel_rfl)) k0 bel lt0) (trodAll_cons_mk (Below.trod laidOut (by kernel_rfl) (of_decide_eq_true (by kernel_rfl)) k1 bel lt1) (trodAll_cons_mk (Below.trod laidOut (by kernel_rfl) (of_decide_eq_true (by kernel_rfl)) k2 bel lt2) (trodAll_cons_mk (Below.trod laidOut (by kernel_rfl) (of_decide_eq_true (by kernel_rfl)) k3 bel lt3) (trodAll_cons_mk (Below.trod laidOut (by kernel_rfl) (of_decide_eq_true (by kernel_rfl)) k4 bel lt4) trodAll_mk0))))), Below.trodVars laidOut bel (by kernel_rfl) hV, bel.frame _, fun h => by cases h⟩
theorem holds : Rows.FnExactClaimSaid :=
 OpenClaim.holds_of_wide 8 Tryd.f8 rfl rfl rfl rfl rfl rfl rfl ⟨rfl, rfl, rfl, rfl, rfl⟩ rfl rfl rfl rfl rfl (by kernel_rfl) Tryd.func8 (by kernel_rfl)
  (of_decide_eq_true (by kernel_rfl)) (by unfold Func.isWrapper; first | (rw [if_pos (by decide +kernel)]; kernel_rfl) | (rw [if_neg (by decide +kernel)]; exact ⟨rfl, rfl⟩))
  (fun os started H enc _ => lifted os started H enc)
theorem plain (f : FuncId) (fn : Func) (hf : Tryd.pinned.checked.prog.funcNamed "loop.example/s15618/laws.FnExactClaim" = some f) (hfn : Tryd.pinned.checked.prog.funcs[f]? = some fn) :
 false = Tryd.pinned.checked.prog.looks [] ∧ ∀ (j : Nat) t, fn.params[j]? = some t → Tryd.pinned.checked.prog.wantsStandIn t = false := by
 obtain rfl : f = 8 := Option.some.inj ((show Tryd.prog.funcNamed "loop.example/s15618/laws.FnExactClaim" = some 8 by kernel_rfl).symm.trans hf) |>.symm
 obtain rfl : fn = Tryd.f8 := (Option.some.inj (Tryd.func8.symm.trans hfn)).symm
 refine ⟨by kernel_rfl, fun j t ht => ?_⟩
 rw [Tryd.params8] at ht
 have hm : t ∈ [24, 26, 3, 3, 3] := by simpa using Array.mem_of_getElem? ht
 have hall : ([24, 26, 3, 3, 3].all fun u => !Tryd.prog.wantsStandIn u) = true := by kernel_rfl
 exact (show Tryd.prog.wantsStandIn t = false by simpa using List.all_eq_true.1 hall t hm)
theorem card : Rows.FnExactClaimCardSaid :=
 Claim7.holds_tied_plain_at .later [] _ _ _ _ holds (fun _ h => by cases h) (by kernel_rfl) (fun _ h => by cases h) fnExactClaim_row_tie rfl ⟨rfl, rfl⟩ (by kernel_rfl) rfl plain (by kernel_rfl)
end Go.Proofs.YtnbohlcibgfjaaaDoor.fnExactClaim
namespace Go.Proofs.YtnbohlcibgfjaaaDoor
/-- The card, under a short name, for the claim. -/
theorem fnExactClaim_card : Rows.FnExactClaimCardSaid := fnExactClaim.card
end Go.Proofs.YtnbohlcibgfjaaaDoor
end
