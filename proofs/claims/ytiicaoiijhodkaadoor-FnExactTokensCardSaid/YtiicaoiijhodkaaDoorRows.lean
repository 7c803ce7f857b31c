/-
  NARROWER THAN 'FOR EVERY INPUT', by the rows' own cells (each row's printed sentence says how): FnExactValidSources: maps, laid · FnExactValidGraph: maps, laid · FnExactTokens: maps, laid · FnExactValidTable: maps, laid.
  DERIVED. THE GIVEN ROWS OF THIS SEAT. 4 by the template 'for every input the law returns true; each argument reads behind the call as it read before'; 0 by the template 'total and deterministic' (their statements: YtiicaoiijhodkaaDoorTotals.lean).
  GIVEN WITH THE SEED: the statements are not yours to turn. If you find one false, say at which input.
  Laid BY PROGRAM, IN A SANDBOX (cutbox-rows.mjs): the forced cells as the released guide's own fill.sh prints them over the translation f33f139188a5a51f… (all of the seat's roots in one cut). By AI agents, Wed Nov 11 2026. No macro, syntax, notation, axiom, sorry.
-/
import Derived.Test.YtiicaoiijhodkaaDoorChecked
import GoSem.Claim
import GoSem.ClaimJoined
import GoSem.ClaimMapViews
import Derived.JoinedTies
import Derived.KernelRfl
namespace Go.Proofs.YtiicaoiijhodkaaDoor
/- THE CELL 'sum', in the pinned program and in every row, IS THE sha256 OF THE DUMP (.gsa) THAT YtiicaoiijhodkaaDoorProg.lean LOADS. Nothing in Lean hashes anything: it is a label: what it is worth is what the hold of that sum in a sandbox is worth. -/
noncomputable def Tryd.pinned : Pinned := { name := "ytiicaoiijhodkaadoor", sum := "f33f139188a5a51f12b8d1b6e6fac134acf1acba010ce4045f35f2e019a86b3d", checked := Tryd.checked }
namespace Rows
def none {H : Type} : Left H := { results := [], args := [] }

/- WHAT THE LISTED PACKAGE-LEVEL VARIABLES READ AS WHEN THE CALL BEGINS. Each datum BY PROGRAM (the guide's laid-datum.mjs) off the statement by which the dump's own 'gosem.cut.vars' lays the variable. In a bare row this is a premise. The card (YtiicaoiijhodkaaDoorCards.lean) ties it to the program's text. -/
def laid_loop_example_s15618_impl_reserved {H : Type} : DataW H := .map [(.string [98, 111, 111, 108], .lit (.int .i64 1)), (.string [101, 108, 115, 101], .lit (.int .i64 1)), (.string [102, 97, 108, 115, 101], .lit (.int .i64 1)), (.string [102, 117, 110], .lit (.int .i64 1)), (.string [105, 102], .lit (.int .i64 1)), (.string [105, 109, 112, 111, 114, 116], .lit (.int .i64 1)), (.string [105, 110, 116], .lit (.int .i64 1)), (.string [116, 104, 101, 110], .lit (.int .i64 1)), (.string [116, 114, 117, 101], .lit (.int .i64 1)), (.string [116, 121, 112, 101], .lit (.int .i64 1)), (.string [118, 97, 108], .lit (.int .i64 1))]

/-- 'laws.FnExactValidSources': WHATEVER THE INPUT: true; the input reads as it did. -/
def fnExactValidSourcesSpec : ChangeSpec := { name := "fnExactValidSources", vars := ["loop.example/s15618/impl.reserved"], fn := fun _ => fun
  | [d, g1] => { results := [.lit (.bool true)], args := [d], vars := [g1] }
  | _ => none }
def fnExactValidSourcesRow : OpenClaim := { program := "ytiicaoiijhodkaadoor", sum := "f33f139188a5a51f12b8d1b6e6fac134acf1acba010ce4045f35f2e019a86b3d", func := "loop.example/s15618/laws.FnExactValidSources", spec := "fnExactValidSources", named := ["loop.example/s15618/impl.reserved"], maps := true, apart := false, laid := [("loop.example/s15618/impl.reserved", laid_loop_example_s15618_impl_reserved)] }
def FnExactValidSourcesSaid : Prop := fnExactValidSourcesRow.holds Tryd.pinned (OpenSpec.ofChange fnExactValidSourcesSpec)

/-- ITS FALSE NEIGHBOUR: 'it returns false'. Refute it at one input. -/
def fnExactValidSourcesWrong : ChangeSpec := { name := "fnExactValidSources", vars := ["loop.example/s15618/impl.reserved"], fn := fun _ => fun
  | [d, g1] => { results := [.lit (.bool false)], args := [d], vars := [g1] }
  | _ => none }
def FnExactValidSourcesWrongFalsely : Prop := fnExactValidSourcesRow.holds Tryd.pinned (OpenSpec.ofChange fnExactValidSourcesWrong)

/-- 'laws.FnExactValidGraph': WHATEVER THE INPUT: true; the input reads as it did. -/
def fnExactValidGraphSpec : ChangeSpec := { name := "fnExactValidGraph", vars := ["loop.example/s15618/impl.reserved"], fn := fun _ => fun
  | [d, g1] => { results := [.lit (.bool true)], args := [d], vars := [g1] }
  | _ => none }
def fnExactValidGraphRow : OpenClaim := { program := "ytiicaoiijhodkaadoor", sum := "f33f139188a5a51f12b8d1b6e6fac134acf1acba010ce4045f35f2e019a86b3d", func := "loop.example/s15618/laws.FnExactValidGraph", spec := "fnExactValidGraph", named := ["loop.example/s15618/impl.reserved"], maps := true, apart := false, laid := [("loop.example/s15618/impl.reserved", laid_loop_example_s15618_impl_reserved)] }
def FnExactValidGraphSaid : Prop := fnExactValidGraphRow.holds Tryd.pinned (OpenSpec.ofChange fnExactValidGraphSpec)

/-- ITS FALSE NEIGHBOUR: 'it returns false'. Refute it at one input. -/
def fnExactValidGraphWrong : ChangeSpec := { name := "fnExactValidGraph", vars := ["loop.example/s15618/impl.reserved"], fn := fun _ => fun
  | [d, g1] => { results := [.lit (.bool false)], args := [d], vars := [g1] }
  | _ => none }
def FnExactValidGraphWrongFalsely : Prop := fnExactValidGraphRow.holds Tryd.pinned (OpenSpec.ofChange fnExactValidGraphWrong)

/-- 'laws.FnExactTokens': WHATEVER THE INPUT: true; the input reads as it did. -/
def fnExactTokensSpec : ChangeSpec := { name := "fnExactTokens", vars := ["loop.example/s15618/impl.reserved"], fn := fun _ => fun
  | [d, g1] => { results := [.lit (.bool true)], args := [d], vars := [g1] }
  | _ => none }
def fnExactTokensRow : OpenClaim := { program := "ytiicaoiijhodkaadoor", sum := "f33f139188a5a51f12b8d1b6e6fac134acf1acba010ce4045f35f2e019a86b3d", func := "loop.example/s15618/laws.FnExactTokens", spec := "fnExactTokens", inPlace := ["internal/bytealg.IndexByteString"], unfollowed := true, recurses := true, named := ["loop.example/s15618/impl.reserved"], maps := true, apart := false, laid := [("loop.example/s15618/impl.reserved", laid_loop_example_s15618_impl_reserved)] }
def FnExactTokensSaid : Prop := fnExactTokensRow.holds Tryd.pinned (OpenSpec.ofChange fnExactTokensSpec)

/-- ITS FALSE NEIGHBOUR: 'it returns false'. Refute it at one input. -/
def fnExactTokensWrong : ChangeSpec := { name := "fnExactTokens", vars := ["loop.example/s15618/impl.reserved"], fn := fun _ => fun
  | [d, g1] => { results := [.lit (.bool false)], args := [d], vars := [g1] }
  | _ => none }
def FnExactTokensWrongFalsely : Prop := fnExactTokensRow.holds Tryd.pinned (OpenSpec.ofChange fnExactTokensWrong)

/-- 'laws.FnExactValidTable': WHATEVER THE INPUT: true; the input reads as it did. -/
def fnExactValidTableSpec : ChangeSpec := { name := "fnExactValidTable", vars := ["loop.example/s15618/impl.reserved"], fn := fun _ => fun
  | [d, g1] => { results := [.lit (.bool true)], args := [d], vars := [g1] }
  | _ => none }
def fnExactValidTableRow : OpenClaim := { program := "ytiicaoiijhodkaadoor", sum := "f33f139188a5a51f12b8d1b6e6fac134acf1acba010ce4045f35f2e019a86b3d", func := "loop.example/s15618/laws.FnExactValidTable", spec := "fnExactValidTable", unfollowed := true, recurses := true, named := ["loop.example/s15618/impl.reserved"], maps := true, apart := false, laid := [("loop.example/s15618/impl.reserved", laid_loop_example_s15618_impl_reserved)] }
def FnExactValidTableSaid : Prop := fnExactValidTableRow.holds Tryd.pinned (OpenSpec.ofChange fnExactValidTableSpec)

/-- ITS FALSE NEIGHBOUR: 'it returns false'. Refute it at one input. -/
def fnExactValidTableWrong : ChangeSpec := { name := "fnExactValidTable", vars := ["loop.example/s15618/impl.reserved"], fn := fun _ => fun
  | [d, g1] => { results := [.lit (.bool false)], args := [d], vars := [g1] }
  | _ => none }
def FnExactValidTableWrongFalsely : Prop := fnExactValidTableRow.holds Tryd.pinned (OpenSpec.ofChange fnExactValidTableWrong)

/- THE SECOND FORM. 'bulk': how many values and letters a reading holds, each counted each time it is reached (what is shared counts as often as it is met; a slice's spare places count too). A statement '..UptoSaid' is the law's where the arguments, and the package variables that the reading takes, are together of bulk at most 1048576: NARROWER than '..Said'. Prove '..Said' where nothing that the law and all that it calls make is longer than what came in: it says more and counts as full. Else prove '..UptoSaid'. A law counts once. -/
mutual
def uptoBulk {H : Type} : DataW H → Nat
  | .lit (.string bytes) => bytes.length + 1
  | .lit _ => 1
  | .nil => 1
  | .ptr d => uptoBulk d + 1
  | .slice elems spare => uptoBulkAll elems + uptoBulkAll spare + 1
  | .agg parts => uptoBulkAll parts + 1
  | .iface _ d => uptoBulk d + 1
  | .map entries => uptoBulkEntries entries + 1
  | .held _ => 1
def uptoBulkAll {H : Type} : List (DataW H) → Nat
  | [] => 0
  | d :: r => uptoBulk d + uptoBulkAll r
def uptoBulkEntries {H : Type} : List (Lit × DataW H) → Nat
  | [] => 0
  | x :: r => uptoBulkEntry x + uptoBulkEntries r
def uptoBulkEntry {H : Type} : Lit × DataW H → Nat
  | (.string bytes, d) => bytes.length + uptoBulk d + 1
  | (_, d) => uptoBulk d + 1
 end
def uptoSmall : (H : Type) → List (DataW H) → Bool := fun _ ds => decide (uptoBulkAll ds ≤ 1048576)
def OpenSpec.upto (s : _root_.Go.ChangeSpec) : _root_.Go.OpenSpec := { _root_.Go.OpenSpec.ofChange s with cond := some uptoSmall }

/-- 'laws.FnExactValidSources', WHERE WHAT IT READS IS OF BULK AT MOST 1048576: true; the input reads as it did. -/
def fnExactValidSourcesUptoRow : OpenClaim := { program := "ytiicaoiijhodkaadoor", sum := "f33f139188a5a51f12b8d1b6e6fac134acf1acba010ce4045f35f2e019a86b3d", func := "loop.example/s15618/laws.FnExactValidSources", spec := "fnExactValidSources", named := ["loop.example/s15618/impl.reserved"], maps := true, apart := false, laid := [("loop.example/s15618/impl.reserved", laid_loop_example_s15618_impl_reserved)], narrowed := true }
def FnExactValidSourcesUptoSaid : Prop := fnExactValidSourcesUptoRow.holds Tryd.pinned (OpenSpec.upto fnExactValidSourcesSpec)

/-- 'laws.FnExactValidGraph', WHERE WHAT IT READS IS OF BULK AT MOST 1048576: true; the input reads as it did. -/
def fnExactValidGraphUptoRow : OpenClaim := { program := "ytiicaoiijhodkaadoor", sum := "f33f139188a5a51f12b8d1b6e6fac134acf1acba010ce4045f35f2e019a86b3d", func := "loop.example/s15618/laws.FnExactValidGraph", spec := "fnExactValidGraph", named := ["loop.example/s15618/impl.reserved"], maps := true, apart := false, laid := [("loop.example/s15618/impl.reserved", laid_loop_example_s15618_impl_reserved)], narrowed := true }
def FnExactValidGraphUptoSaid : Prop := fnExactValidGraphUptoRow.holds Tryd.pinned (OpenSpec.upto fnExactValidGraphSpec)

/-- 'laws.FnExactTokens', WHERE WHAT IT READS IS OF BULK AT MOST 1048576: true; the input reads as it did. -/
def fnExactTokensUptoRow : OpenClaim := { program := "ytiicaoiijhodkaadoor", sum := "f33f139188a5a51f12b8d1b6e6fac134acf1acba010ce4045f35f2e019a86b3d", func := "loop.example/s15618/laws.FnExactTokens", spec := "fnExactTokens", inPlace := ["internal/bytealg.IndexByteString"], unfollowed := true, recurses := true, named := ["loop.example/s15618/impl.reserved"], maps := true, apart := false, laid := [("loop.example/s15618/impl.reserved", laid_loop_example_s15618_impl_reserved)], narrowed := true }
def FnExactTokensUptoSaid : Prop := fnExactTokensUptoRow.holds Tryd.pinned (OpenSpec.upto fnExactTokensSpec)

/-- 'laws.FnExactValidTable', WHERE WHAT IT READS IS OF BULK AT MOST 1048576: true; the input reads as it did. -/
def fnExactValidTableUptoRow : OpenClaim := { program := "ytiicaoiijhodkaadoor", sum := "f33f139188a5a51f12b8d1b6e6fac134acf1acba010ce4045f35f2e019a86b3d", func := "loop.example/s15618/laws.FnExactValidTable", spec := "fnExactValidTable", unfollowed := true, recurses := true, named := ["loop.example/s15618/impl.reserved"], maps := true, apart := false, laid := [("loop.example/s15618/impl.reserved", laid_loop_example_s15618_impl_reserved)], narrowed := true }
def FnExactValidTableUptoSaid : Prop := fnExactValidTableUptoRow.holds Tryd.pinned (OpenSpec.upto fnExactValidTableSpec)

end Rows
end Go.Proofs.YtiicaoiijhodkaaDoor
