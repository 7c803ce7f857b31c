/-
  NARROWER THAN 'FOR EVERY INPUT', by the rows' own cells (each row's printed sentence says how): FnExactFind: maps, laid · FnExactCircle: maps, laid · FnExactRelease: maps, laid · FnExactConfirm: maps, laid · FnExactFinish: maps, laid · FnExactClaim: maps, laid · FnTable: maps, laid · FnExactSame: maps, laid · FnExactSub: maps, laid · FnSub: maps, laid.
  DERIVED. THE GIVEN ROWS OF THIS SEAT. 10 by the template 'for every input the law returns true; each argument reads behind the call as it read before'; 0 by the template 'total and deterministic' (their statements: YtnbohlcibgfjaaaDoorTotals.lean).
  GIVEN WITH THE SEED: the statements are not yours to turn. If you find one false, say at which input.
  Laid BY PROGRAM, IN A SANDBOX (cutbox-rows.mjs): the forced cells as the released guide's own fill.sh prints them over the translation 3f3b60167192a7c8… (all of the seat's roots in one cut). By AI agents, Wed Nov 11 2026. No macro, syntax, notation, axiom, sorry.
-/
import Derived.Test.YtnbohlcibgfjaaaDoorChecked
import GoSem.Claim
import GoSem.ClaimJoined
import GoSem.ClaimMapViews
import Derived.JoinedTies
import Derived.KernelRfl
namespace Go.Proofs.YtnbohlcibgfjaaaDoor
/- THE CELL 'sum', in the pinned program and in every row, IS THE sha256 OF THE DUMP (.gsa) THAT YtnbohlcibgfjaaaDoorProg.lean LOADS. Nothing in Lean hashes anything: it is a label: what it is worth is what the hold of that sum in a sandbox is worth. -/
noncomputable def Tryd.pinned : Pinned := { name := "ytnbohlcibgfjaaadoor", sum := "3f3b60167192a7c8d22436e9789bc9129505832f40c531e6d655a6320d315bbc", checked := Tryd.checked }
namespace Rows
def none {H : Type} : Left H := { results := [], args := [] }

/- WHAT THE LISTED PACKAGE-LEVEL VARIABLES READ AS WHEN THE CALL BEGINS. Each datum BY PROGRAM (the guide's laid-datum.mjs) off the statement by which the dump's own 'gosem.cut.vars' lays the variable. In a bare row this is a premise. The card (YtnbohlcibgfjaaaDoorCards.lean) ties it to the program's text. -/
def laid_loop_example_s15618_impl_reserved {H : Type} : DataW H := .map [(.string [98, 111, 111, 108], .lit (.int .i64 1)), (.string [101, 108, 115, 101], .lit (.int .i64 1)), (.string [102, 97, 108, 115, 101], .lit (.int .i64 1)), (.string [102, 117, 110], .lit (.int .i64 1)), (.string [105, 102], .lit (.int .i64 1)), (.string [105, 109, 112, 111, 114, 116], .lit (.int .i64 1)), (.string [105, 110, 116], .lit (.int .i64 1)), (.string [116, 104, 101, 110], .lit (.int .i64 1)), (.string [116, 114, 117, 101], .lit (.int .i64 1)), (.string [116, 121, 112, 101], .lit (.int .i64 1)), (.string [118, 97, 108], .lit (.int .i64 1))]

/-- 'laws.FnExactFind': WHATEVER THE INPUT: true; the input reads as it did. -/
def fnExactFindSpec : ChangeSpec := { name := "fnExactFind", vars := ["loop.example/s15618/impl.reserved"], fn := fun _ => fun
  | [d1, d2, g1] => { results := [.lit (.bool true)], args := [d1, d2], vars := [g1] }
  | _ => none }
def fnExactFindRow : OpenClaim := { program := "ytnbohlcibgfjaaadoor", sum := "3f3b60167192a7c8d22436e9789bc9129505832f40c531e6d655a6320d315bbc", func := "loop.example/s15618/laws.FnExactFind", spec := "fnExactFind", unfollowed := true, recurses := true, named := ["loop.example/s15618/impl.reserved"], maps := true, plainKeys := false, apart := false, laid := [("loop.example/s15618/impl.reserved", laid_loop_example_s15618_impl_reserved)] }
def FnExactFindSaid : Prop := fnExactFindRow.holds Tryd.pinned (OpenSpec.ofChange fnExactFindSpec)

/-- ITS FALSE NEIGHBOUR: 'it returns false'. Refute it at one input. -/
def fnExactFindWrong : ChangeSpec := { name := "fnExactFind", vars := ["loop.example/s15618/impl.reserved"], fn := fun _ => fun
  | [d1, d2, g1] => { results := [.lit (.bool false)], args := [d1, d2], vars := [g1] }
  | _ => none }
def FnExactFindWrongFalsely : Prop := fnExactFindRow.holds Tryd.pinned (OpenSpec.ofChange fnExactFindWrong)

/-- 'laws.FnExactCircle': WHATEVER THE INPUT: true; the input reads as it did. -/
def fnExactCircleSpec : ChangeSpec := { name := "fnExactCircle", vars := ["loop.example/s15618/impl.reserved"], fn := fun _ => fun
  | [d1, d2, d3, d4, d5, g1] => { results := [.lit (.bool true)], args := [d1, d2, d3, d4, d5], vars := [g1] }
  | _ => none }
def fnExactCircleRow : OpenClaim := { program := "ytnbohlcibgfjaaadoor", sum := "3f3b60167192a7c8d22436e9789bc9129505832f40c531e6d655a6320d315bbc", func := "loop.example/s15618/laws.FnExactCircle", spec := "fnExactCircle", unfollowed := true, recurses := true, named := ["loop.example/s15618/impl.reserved"], maps := true, plainKeys := false, apart := false, laid := [("loop.example/s15618/impl.reserved", laid_loop_example_s15618_impl_reserved)] }
def FnExactCircleSaid : Prop := fnExactCircleRow.holds Tryd.pinned (OpenSpec.ofChange fnExactCircleSpec)

/-- ITS FALSE NEIGHBOUR: 'it returns false'. Refute it at one input. -/
def fnExactCircleWrong : ChangeSpec := { name := "fnExactCircle", vars := ["loop.example/s15618/impl.reserved"], fn := fun _ => fun
  | [d1, d2, d3, d4, d5, g1] => { results := [.lit (.bool false)], args := [d1, d2, d3, d4, d5], vars := [g1] }
  | _ => none }
def FnExactCircleWrongFalsely : Prop := fnExactCircleRow.holds Tryd.pinned (OpenSpec.ofChange fnExactCircleWrong)

/-- 'laws.FnExactRelease': WHATEVER THE INPUT: true; the input reads as it did. -/
def fnExactReleaseSpec : ChangeSpec := { name := "fnExactRelease", vars := ["loop.example/s15618/impl.reserved"], fn := fun _ => fun
  | [d1, d2, g1] => { results := [.lit (.bool true)], args := [d1, d2], vars := [g1] }
  | _ => none }
def fnExactReleaseRow : OpenClaim := { program := "ytnbohlcibgfjaaadoor", sum := "3f3b60167192a7c8d22436e9789bc9129505832f40c531e6d655a6320d315bbc", func := "loop.example/s15618/laws.FnExactRelease", spec := "fnExactRelease", unfollowed := true, recurses := true, named := ["loop.example/s15618/impl.reserved"], maps := true, plainKeys := false, apart := false, laid := [("loop.example/s15618/impl.reserved", laid_loop_example_s15618_impl_reserved)] }
def FnExactReleaseSaid : Prop := fnExactReleaseRow.holds Tryd.pinned (OpenSpec.ofChange fnExactReleaseSpec)

/-- ITS FALSE NEIGHBOUR: 'it returns false'. Refute it at one input. -/
def fnExactReleaseWrong : ChangeSpec := { name := "fnExactRelease", vars := ["loop.example/s15618/impl.reserved"], fn := fun _ => fun
  | [d1, d2, g1] => { results := [.lit (.bool false)], args := [d1, d2], vars := [g1] }
  | _ => none }
def FnExactReleaseWrongFalsely : Prop := fnExactReleaseRow.holds Tryd.pinned (OpenSpec.ofChange fnExactReleaseWrong)

/-- 'laws.FnExactConfirm': WHATEVER THE INPUT: true; the input reads as it did. -/
def fnExactConfirmSpec : ChangeSpec := { name := "fnExactConfirm", vars := ["loop.example/s15618/impl.reserved"], fn := fun _ => fun
  | [d1, d2, d3, d4, g1] => { results := [.lit (.bool true)], args := [d1, d2, d3, d4], vars := [g1] }
  | _ => none }
def fnExactConfirmRow : OpenClaim := { program := "ytnbohlcibgfjaaadoor", sum := "3f3b60167192a7c8d22436e9789bc9129505832f40c531e6d655a6320d315bbc", func := "loop.example/s15618/laws.FnExactConfirm", spec := "fnExactConfirm", unfollowed := true, recurses := true, named := ["loop.example/s15618/impl.reserved"], maps := true, plainKeys := false, apart := false, laid := [("loop.example/s15618/impl.reserved", laid_loop_example_s15618_impl_reserved)] }
def FnExactConfirmSaid : Prop := fnExactConfirmRow.holds Tryd.pinned (OpenSpec.ofChange fnExactConfirmSpec)

/-- ITS FALSE NEIGHBOUR: 'it returns false'. Refute it at one input. -/
def fnExactConfirmWrong : ChangeSpec := { name := "fnExactConfirm", vars := ["loop.example/s15618/impl.reserved"], fn := fun _ => fun
  | [d1, d2, d3, d4, g1] => { results := [.lit (.bool false)], args := [d1, d2, d3, d4], vars := [g1] }
  | _ => none }
def FnExactConfirmWrongFalsely : Prop := fnExactConfirmRow.holds Tryd.pinned (OpenSpec.ofChange fnExactConfirmWrong)

/-- 'laws.FnExactFinish': WHATEVER THE INPUT: true; the input reads as it did. -/
def fnExactFinishSpec : ChangeSpec := { name := "fnExactFinish", vars := ["loop.example/s15618/impl.reserved"], fn := fun _ => fun
  | [d1, d2, d3, d4, d5, d6, g1] => { results := [.lit (.bool true)], args := [d1, d2, d3, d4, d5, d6], vars := [g1] }
  | _ => none }
def fnExactFinishRow : OpenClaim := { program := "ytnbohlcibgfjaaadoor", sum := "3f3b60167192a7c8d22436e9789bc9129505832f40c531e6d655a6320d315bbc", func := "loop.example/s15618/laws.FnExactFinish", spec := "fnExactFinish", unfollowed := true, recurses := true, named := ["loop.example/s15618/impl.reserved"], maps := true, plainKeys := false, apart := false, laid := [("loop.example/s15618/impl.reserved", laid_loop_example_s15618_impl_reserved)] }
def FnExactFinishSaid : Prop := fnExactFinishRow.holds Tryd.pinned (OpenSpec.ofChange fnExactFinishSpec)

/-- ITS FALSE NEIGHBOUR: 'it returns false'. Refute it at one input. -/
def fnExactFinishWrong : ChangeSpec := { name := "fnExactFinish", vars := ["loop.example/s15618/impl.reserved"], fn := fun _ => fun
  | [d1, d2, d3, d4, d5, d6, g1] => { results := [.lit (.bool false)], args := [d1, d2, d3, d4, d5, d6], vars := [g1] }
  | _ => none }
def FnExactFinishWrongFalsely : Prop := fnExactFinishRow.holds Tryd.pinned (OpenSpec.ofChange fnExactFinishWrong)

/-- 'laws.FnExactClaim': WHATEVER THE INPUT: true; the input reads as it did. -/
def fnExactClaimSpec : ChangeSpec := { name := "fnExactClaim", vars := ["loop.example/s15618/impl.reserved"], fn := fun _ => fun
  | [d1, d2, d3, d4, d5, g1] => { results := [.lit (.bool true)], args := [d1, d2, d3, d4, d5], vars := [g1] }
  | _ => none }
def fnExactClaimRow : OpenClaim := { program := "ytnbohlcibgfjaaadoor", sum := "3f3b60167192a7c8d22436e9789bc9129505832f40c531e6d655a6320d315bbc", func := "loop.example/s15618/laws.FnExactClaim", spec := "fnExactClaim", inPlace := ["slices.overlaps[loop.example/s15618/impl.row]"], unfollowed := true, recurses := true, named := ["loop.example/s15618/impl.reserved"], maps := true, plainKeys := false, apart := false, laid := [("loop.example/s15618/impl.reserved", laid_loop_example_s15618_impl_reserved)] }
def FnExactClaimSaid : Prop := fnExactClaimRow.holds Tryd.pinned (OpenSpec.ofChange fnExactClaimSpec)

/-- ITS FALSE NEIGHBOUR: 'it returns false'. Refute it at one input. -/
def fnExactClaimWrong : ChangeSpec := { name := "fnExactClaim", vars := ["loop.example/s15618/impl.reserved"], fn := fun _ => fun
  | [d1, d2, d3, d4, d5, g1] => { results := [.lit (.bool false)], args := [d1, d2, d3, d4, d5], vars := [g1] }
  | _ => none }
def FnExactClaimWrongFalsely : Prop := fnExactClaimRow.holds Tryd.pinned (OpenSpec.ofChange fnExactClaimWrong)

/-- 'laws.FnTable': WHATEVER THE INPUT: true; the input reads as it did. -/
def fnTableSpec : ChangeSpec := { name := "fnTable", vars := ["loop.example/s15618/impl.reserved"], fn := fun _ => fun
  | [d, g1] => { results := [.lit (.bool true)], args := [d], vars := [g1] }
  | _ => none }
def fnTableRow : OpenClaim := { program := "ytnbohlcibgfjaaadoor", sum := "3f3b60167192a7c8d22436e9789bc9129505832f40c531e6d655a6320d315bbc", func := "loop.example/s15618/laws.FnTable", spec := "fnTable", inPlace := ["slices.overlaps[loop.example/s15618/impl.row]"], unfollowed := true, recurses := true, named := ["loop.example/s15618/impl.reserved"], maps := true, plainKeys := false, apart := false, laid := [("loop.example/s15618/impl.reserved", laid_loop_example_s15618_impl_reserved)] }
def FnTableSaid : Prop := fnTableRow.holds Tryd.pinned (OpenSpec.ofChange fnTableSpec)

/-- ITS FALSE NEIGHBOUR: 'it returns false'. Refute it at one input. -/
def fnTableWrong : ChangeSpec := { name := "fnTable", vars := ["loop.example/s15618/impl.reserved"], fn := fun _ => fun
  | [d, g1] => { results := [.lit (.bool false)], args := [d], vars := [g1] }
  | _ => none }
def FnTableWrongFalsely : Prop := fnTableRow.holds Tryd.pinned (OpenSpec.ofChange fnTableWrong)

/-- 'laws.FnExactSame': WHATEVER THE INPUT: true; the input reads as it did. -/
def fnExactSameSpec : ChangeSpec := { name := "fnExactSame", vars := ["loop.example/s15618/impl.reserved"], fn := fun _ => fun
  | [d1, d2, d3, g1] => { results := [.lit (.bool true)], args := [d1, d2, d3], vars := [g1] }
  | _ => none }
def fnExactSameRow : OpenClaim := { program := "ytnbohlcibgfjaaadoor", sum := "3f3b60167192a7c8d22436e9789bc9129505832f40c531e6d655a6320d315bbc", func := "loop.example/s15618/laws.FnExactSame", spec := "fnExactSame", unfollowed := true, recurses := true, named := ["loop.example/s15618/impl.reserved"], maps := true, plainKeys := false, apart := false, laid := [("loop.example/s15618/impl.reserved", laid_loop_example_s15618_impl_reserved)] }
def FnExactSameSaid : Prop := fnExactSameRow.holds Tryd.pinned (OpenSpec.ofChange fnExactSameSpec)

/-- ITS FALSE NEIGHBOUR: 'it returns false'. Refute it at one input. -/
def fnExactSameWrong : ChangeSpec := { name := "fnExactSame", vars := ["loop.example/s15618/impl.reserved"], fn := fun _ => fun
  | [d1, d2, d3, g1] => { results := [.lit (.bool false)], args := [d1, d2, d3], vars := [g1] }
  | _ => none }
def FnExactSameWrongFalsely : Prop := fnExactSameRow.holds Tryd.pinned (OpenSpec.ofChange fnExactSameWrong)

/-- 'laws.FnExactSub': WHATEVER THE INPUT: true; the input reads as it did. -/
def fnExactSubSpec : ChangeSpec := { name := "fnExactSub", vars := ["loop.example/s15618/impl.reserved"], fn := fun _ => fun
  | [d1, d2, d3, g1] => { results := [.lit (.bool true)], args := [d1, d2, d3], vars := [g1] }
  | _ => none }
def fnExactSubRow : OpenClaim := { program := "ytnbohlcibgfjaaadoor", sum := "3f3b60167192a7c8d22436e9789bc9129505832f40c531e6d655a6320d315bbc", func := "loop.example/s15618/laws.FnExactSub", spec := "fnExactSub", unfollowed := true, recurses := true, named := ["loop.example/s15618/impl.reserved"], maps := true, plainKeys := false, apart := false, laid := [("loop.example/s15618/impl.reserved", laid_loop_example_s15618_impl_reserved)] }
def FnExactSubSaid : Prop := fnExactSubRow.holds Tryd.pinned (OpenSpec.ofChange fnExactSubSpec)

/-- ITS FALSE NEIGHBOUR: 'it returns false'. Refute it at one input. -/
def fnExactSubWrong : ChangeSpec := { name := "fnExactSub", vars := ["loop.example/s15618/impl.reserved"], fn := fun _ => fun
  | [d1, d2, d3, g1] => { results := [.lit (.bool false)], args := [d1, d2, d3], vars := [g1] }
  | _ => none }
def FnExactSubWrongFalsely : Prop := fnExactSubRow.holds Tryd.pinned (OpenSpec.ofChange fnExactSubWrong)

/-- 'laws.FnSub': WHATEVER THE INPUT: true; the input reads as it did. -/
def fnSubSpec : ChangeSpec := { name := "fnSub", vars := ["loop.example/s15618/impl.reserved"], fn := fun _ => fun
  | [d, g1] => { results := [.lit (.bool true)], args := [d], vars := [g1] }
  | _ => none }
def fnSubRow : OpenClaim := { program := "ytnbohlcibgfjaaadoor", sum := "3f3b60167192a7c8d22436e9789bc9129505832f40c531e6d655a6320d315bbc", func := "loop.example/s15618/laws.FnSub", spec := "fnSub", unfollowed := true, recurses := true, named := ["loop.example/s15618/impl.reserved"], maps := true, plainKeys := false, apart := false, laid := [("loop.example/s15618/impl.reserved", laid_loop_example_s15618_impl_reserved)] }
def FnSubSaid : Prop := fnSubRow.holds Tryd.pinned (OpenSpec.ofChange fnSubSpec)

/-- ITS FALSE NEIGHBOUR: 'it returns false'. Refute it at one input. -/
def fnSubWrong : ChangeSpec := { name := "fnSub", vars := ["loop.example/s15618/impl.reserved"], fn := fun _ => fun
  | [d, g1] => { results := [.lit (.bool false)], args := [d], vars := [g1] }
  | _ => none }
def FnSubWrongFalsely : Prop := fnSubRow.holds Tryd.pinned (OpenSpec.ofChange fnSubWrong)

/- THE SECOND FORM. 'bulk': how many values and letters a reading holds, each counted each time it is reached (what is shared counts as often as it is met; a slice's spare places count too). A statement '..UptoSaid' is the law's where the arguments, and the package variables that the reading takes, are together of bulk at most 1048576: NARROWER than '..Said'. Prove '..Said' where nothing that the law and all that it calls make is longer than what came in: it says more and counts as full. Else prove '..UptoSaid'. A law counts once. -/
mutual
def uptoBulk {H : Type} : DataW H → Nat
  | .lit (.string bytes) => bytes.length + 1
  | .lit _ => 1
  | .nil => 1
  | .ptr d => uptoBulk d + 1
  | .slice elems spare => uptoBulkAll elems + uptoBulkAll spare + 1
  | .agg parts => uptoBulkAll parts + 1
  | .iface _ d => uptoBulk d + 1
  | .map entries => uptoBulkEntries entries + 1
  | .held _ => 1
def uptoBulkAll {H : Type} : List (DataW H) → Nat
  | [] => 0
  | d :: r => uptoBulk d + uptoBulkAll r
def uptoBulkEntries {H : Type} : List (Lit × DataW H) → Nat
  | [] => 0
  | x :: r => uptoBulkEntry x + uptoBulkEntries r
def uptoBulkEntry {H : Type} : Lit × DataW H → Nat
  | (.string bytes, d) => bytes.length + uptoBulk d + 1
  | (_, d) => uptoBulk d + 1
 end
def uptoSmall : (H : Type) → List (DataW H) → Bool := fun _ ds => decide (uptoBulkAll ds ≤ 1048576)
def OpenSpec.upto (s : _root_.Go.ChangeSpec) : _root_.Go.OpenSpec := { _root_.Go.OpenSpec.ofChange s with cond := some uptoSmall }

/-- 'laws.FnExactFind', WHERE WHAT IT READS IS OF BULK AT MOST 1048576: true; the input reads as it did. -/
def fnExactFindUptoRow : OpenClaim := { program := "ytnbohlcibgfjaaadoor", sum := "3f3b60167192a7c8d22436e9789bc9129505832f40c531e6d655a6320d315bbc", func := "loop.example/s15618/laws.FnExactFind", spec := "fnExactFind", unfollowed := true, recurses := true, named := ["loop.example/s15618/impl.reserved"], maps := true, plainKeys := false, apart := false, laid := [("loop.example/s15618/impl.reserved", laid_loop_example_s15618_impl_reserved)], narrowed := true }
def FnExactFindUptoSaid : Prop := fnExactFindUptoRow.holds Tryd.pinned (OpenSpec.upto fnExactFindSpec)

/-- 'laws.FnExactCircle', WHERE WHAT IT READS IS OF BULK AT MOST 1048576: true; the input reads as it did. -/
def fnExactCircleUptoRow : OpenClaim := { program := "ytnbohlcibgfjaaadoor", sum := "3f3b60167192a7c8d22436e9789bc9129505832f40c531e6d655a6320d315bbc", func := "loop.example/s15618/laws.FnExactCircle", spec := "fnExactCircle", unfollowed := true, recurses := true, named := ["loop.example/s15618/impl.reserved"], maps := true, plainKeys := false, apart := false, laid := [("loop.example/s15618/impl.reserved", laid_loop_example_s15618_impl_reserved)], narrowed := true }
def FnExactCircleUptoSaid : Prop := fnExactCircleUptoRow.holds Tryd.pinned (OpenSpec.upto fnExactCircleSpec)

/-- 'laws.FnExactRelease', WHERE WHAT IT READS IS OF BULK AT MOST 1048576: true; the input reads as it did. -/
def fnExactReleaseUptoRow : OpenClaim := { program := "ytnbohlcibgfjaaadoor", sum := "3f3b60167192a7c8d22436e9789bc9129505832f40c531e6d655a6320d315bbc", func := "loop.example/s15618/laws.FnExactRelease", spec := "fnExactRelease", unfollowed := true, recurses := true, named := ["loop.example/s15618/impl.reserved"], maps := true, plainKeys := false, apart := false, laid := [("loop.example/s15618/impl.reserved", laid_loop_example_s15618_impl_reserved)], narrowed := true }
def FnExactReleaseUptoSaid : Prop := fnExactReleaseUptoRow.holds Tryd.pinned (OpenSpec.upto fnExactReleaseSpec)

/-- 'laws.FnExactConfirm', WHERE WHAT IT READS IS OF BULK AT MOST 1048576: true; the input reads as it did. -/
def fnExactConfirmUptoRow : OpenClaim := { program := "ytnbohlcibgfjaaadoor", sum := "3f3b60167192a7c8d22436e9789bc9129505832f40c531e6d655a6320d315bbc", func := "loop.example/s15618/laws.FnExactConfirm", spec := "fnExactConfirm", unfollowed := true, recurses := true, named := ["loop.example/s15618/impl.reserved"], maps := true, plainKeys := false, apart := false, laid := [("loop.example/s15618/impl.reserved", laid_loop_example_s15618_impl_reserved)], narrowed := true }
def FnExactConfirmUptoSaid : Prop := fnExactConfirmUptoRow.holds Tryd.pinned (OpenSpec.upto fnExactConfirmSpec)

/-- 'laws.FnExactFinish', WHERE WHAT IT READS IS OF BULK AT MOST 1048576: true; the input reads as it did. -/
def fnExactFinishUptoRow : OpenClaim := { program := "ytnbohlcibgfjaaadoor", sum := "3f3b60167192a7c8d22436e9789bc9129505832f40c531e6d655a6320d315bbc", func := "loop.example/s15618/laws.FnExactFinish", spec := "fnExactFinish", unfollowed := true, recurses := true, named := ["loop.example/s15618/impl.reserved"], maps := true, plainKeys := false, apart := false, laid := [("loop.example/s15618/impl.reserved", laid_loop_example_s15618_impl_reserved)], narrowed := true }
def FnExactFinishUptoSaid : Prop := fnExactFinishUptoRow.holds Tryd.pinned (OpenSpec.upto fnExactFinishSpec)

/-- 'laws.FnExactClaim', WHERE WHAT IT READS IS OF BULK AT MOST 1048576: true; the input reads as it did. -/
def fnExactClaimUptoRow : OpenClaim := { program := "ytnbohlcibgfjaaadoor", sum := "3f3b60167192a7c8d22436e9789bc9129505832f40c531e6d655a6320d315bbc", func := "loop.example/s15618/laws.FnExactClaim", spec := "fnExactClaim", inPlace := ["slices.overlaps[loop.example/s15618/impl.row]"], unfollowed := true, recurses := true, named := ["loop.example/s15618/impl.reserved"], maps := true, plainKeys := false, apart := false, laid := [("loop.example/s15618/impl.reserved", laid_loop_example_s15618_impl_reserved)], narrowed := true }
def FnExactClaimUptoSaid : Prop := fnExactClaimUptoRow.holds Tryd.pinned (OpenSpec.upto fnExactClaimSpec)

/-- 'laws.FnTable', WHERE WHAT IT READS IS OF BULK AT MOST 1048576: true; the input reads as it did. -/
def fnTableUptoRow : OpenClaim := { program := "ytnbohlcibgfjaaadoor", sum := "3f3b60167192a7c8d22436e9789bc9129505832f40c531e6d655a6320d315bbc", func := "loop.example/s15618/laws.FnTable", spec := "fnTable", inPlace := ["slices.overlaps[loop.example/s15618/impl.row]"], unfollowed := true, recurses := true, named := ["loop.example/s15618/impl.reserved"], maps := true, plainKeys := false, apart := false, laid := [("loop.example/s15618/impl.reserved", laid_loop_example_s15618_impl_reserved)], narrowed := true }
def FnTableUptoSaid : Prop := fnTableUptoRow.holds Tryd.pinned (OpenSpec.upto fnTableSpec)

/-- 'laws.FnExactSame', WHERE WHAT IT READS IS OF BULK AT MOST 1048576: true; the input reads as it did. -/
def fnExactSameUptoRow : OpenClaim := { program := "ytnbohlcibgfjaaadoor", sum := "3f3b60167192a7c8d22436e9789bc9129505832f40c531e6d655a6320d315bbc", func := "loop.example/s15618/laws.FnExactSame", spec := "fnExactSame", unfollowed := true, recurses := true, named := ["loop.example/s15618/impl.reserved"], maps := true, plainKeys := false, apart := false, laid := [("loop.example/s15618/impl.reserved", laid_loop_example_s15618_impl_reserved)], narrowed := true }
def FnExactSameUptoSaid : Prop := fnExactSameUptoRow.holds Tryd.pinned (OpenSpec.upto fnExactSameSpec)

/-- 'laws.FnExactSub', WHERE WHAT IT READS IS OF BULK AT MOST 1048576: true; the input reads as it did. -/
def fnExactSubUptoRow : OpenClaim := { program := "ytnbohlcibgfjaaadoor", sum := "3f3b60167192a7c8d22436e9789bc9129505832f40c531e6d655a6320d315bbc", func := "loop.example/s15618/laws.FnExactSub", spec := "fnExactSub", unfollowed := true, recurses := true, named := ["loop.example/s15618/impl.reserved"], maps := true, plainKeys := false, apart := false, laid := [("loop.example/s15618/impl.reserved", laid_loop_example_s15618_impl_reserved)], narrowed := true }
def FnExactSubUptoSaid : Prop := fnExactSubUptoRow.holds Tryd.pinned (OpenSpec.upto fnExactSubSpec)

/-- 'laws.FnSub', WHERE WHAT IT READS IS OF BULK AT MOST 1048576: true; the input reads as it did. -/
def fnSubUptoRow : OpenClaim := { program := "ytnbohlcibgfjaaadoor", sum := "3f3b60167192a7c8d22436e9789bc9129505832f40c531e6d655a6320d315bbc", func := "loop.example/s15618/laws.FnSub", spec := "fnSub", unfollowed := true, recurses := true, named := ["loop.example/s15618/impl.reserved"], maps := true, plainKeys := false, apart := false, laid := [("loop.example/s15618/impl.reserved", laid_loop_example_s15618_impl_reserved)], narrowed := true }
def FnSubUptoSaid : Prop := fnSubUptoRow.holds Tryd.pinned (OpenSpec.upto fnSubSpec)

end Rows
end Go.Proofs.YtnbohlcibgfjaaaDoor
