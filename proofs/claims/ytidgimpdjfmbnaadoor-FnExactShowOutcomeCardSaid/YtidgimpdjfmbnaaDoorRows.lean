/-
  NARROWER THAN 'FOR EVERY INPUT', by the rows' own cells (each row's printed sentence says how): FnExactShowOutcome: laid · FnExactCanon: maps, laid · FnExactJoin: maps, laid · FnExactMeet: maps, laid · FnCanon: maps, laid · FnJoin: maps, laid.
  DERIVED. THE GIVEN ROWS OF THIS SEAT. 6 by the template 'for every input the law returns true; each argument reads behind the call as it read before'; 0 by the template 'total and deterministic' (their statements: YtidgimpdjfmbnaaDoorTotals.lean).
  GIVEN WITH THE SEED: the statements are not yours to turn. If you find one false, say at which input.
  Laid BY PROGRAM, IN A SANDBOX (cutbox-rows.mjs): the forced cells as the released guide's own fill.sh prints them over the translation 5c1a383500e793a1… (all of the seat's roots in one cut). By AI agents, Wed Nov 11 2026. No macro, syntax, notation, axiom, sorry.
-/
import Derived.Test.YtidgimpdjfmbnaaDoorChecked
import GoSem.Claim
import GoSem.ClaimJoined
import GoSem.ClaimMapViews
import Derived.JoinedTies
import Derived.KernelRfl
namespace Go.Proofs.YtidgimpdjfmbnaaDoor
/- THE CELL 'sum', in the pinned program and in every row, IS THE sha256 OF THE DUMP (.gsa) THAT YtidgimpdjfmbnaaDoorProg.lean LOADS. Nothing in Lean hashes anything: it is a label: what it is worth is what the hold of that sum in a sandbox is worth. -/
noncomputable def Tryd.pinned : Pinned := { name := "ytidgimpdjfmbnaadoor", sum := "5c1a383500e793a185657e4ae1b97146a8d0efd27f2068e20ba5afa06834d243", checked := Tryd.checked }
namespace Rows
def none {H : Type} : Left H := { results := [], args := [] }

/- WHAT THE LISTED PACKAGE-LEVEL VARIABLES READ AS WHEN THE CALL BEGINS. Each datum BY PROGRAM (the guide's laid-datum.mjs) off the statement by which the dump's own 'gosem.cut.vars' lays the variable. In a bare row this is a premise. The card (YtidgimpdjfmbnaaDoorCards.lean) ties it to the program's text. -/
def laid_math_bits_deBruijn32tab {H : Type} : DataW H := .agg [.lit (.int .u8 0), .lit (.int .u8 1), .lit (.int .u8 28), .lit (.int .u8 2), .lit (.int .u8 29), .lit (.int .u8 14), .lit (.int .u8 24), .lit (.int .u8 3), .lit (.int .u8 30), .lit (.int .u8 22), .lit (.int .u8 20), .lit (.int .u8 15), .lit (.int .u8 25), .lit (.int .u8 17), .lit (.int .u8 4), .lit (.int .u8 8), .lit (.int .u8 31), .lit (.int .u8 27), .lit (.int .u8 13), .lit (.int .u8 23), .lit (.int .u8 21), .lit (.int .u8 19), .lit (.int .u8 16), .lit (.int .u8 7), .lit (.int .u8 26), .lit (.int .u8 12), .lit (.int .u8 18), .lit (.int .u8 6), .lit (.int .u8 11), .lit (.int .u8 5), .lit (.int .u8 10), .lit (.int .u8 9)]
def laid_math_bits_deBruijn64tab {H : Type} : DataW H := .agg [.lit (.int .u8 0), .lit (.int .u8 1), .lit (.int .u8 56), .lit (.int .u8 2), .lit (.int .u8 57), .lit (.int .u8 49), .lit (.int .u8 28), .lit (.int .u8 3), .lit (.int .u8 61), .lit (.int .u8 58), .lit (.int .u8 42), .lit (.int .u8 50), .lit (.int .u8 38), .lit (.int .u8 29), .lit (.int .u8 17), .lit (.int .u8 4), .lit (.int .u8 62), .lit (.int .u8 47), .lit (.int .u8 59), .lit (.int .u8 36), .lit (.int .u8 45), .lit (.int .u8 43), .lit (.int .u8 51), .lit (.int .u8 22), .lit (.int .u8 53), .lit (.int .u8 39), .lit (.int .u8 33), .lit (.int .u8 30), .lit (.int .u8 24), .lit (.int .u8 18), .lit (.int .u8 12), .lit (.int .u8 5), .lit (.int .u8 63), .lit (.int .u8 55), .lit (.int .u8 48), .lit (.int .u8 27), .lit (.int .u8 60), .lit (.int .u8 41), .lit (.int .u8 37), .lit (.int .u8 16), .lit (.int .u8 46), .lit (.int .u8 35), .lit (.int .u8 44), .lit (.int .u8 21), .lit (.int .u8 52), .lit (.int .u8 32), .lit (.int .u8 23), .lit (.int .u8 11), .lit (.int .u8 54), .lit (.int .u8 26), .lit (.int .u8 40), .lit (.int .u8 15), .lit (.int .u8 34), .lit (.int .u8 20), .lit (.int .u8 31), .lit (.int .u8 10), .lit (.int .u8 25), .lit (.int .u8 14), .lit (.int .u8 19), .lit (.int .u8 9), .lit (.int .u8 13), .lit (.int .u8 8), .lit (.int .u8 7), .lit (.int .u8 6)]
def laid_internal_strconv_uint64pow10 {H : Type} : DataW H := .agg [.lit (.int .u64 1), .lit (.int .u64 10), .lit (.int .u64 100), .lit (.int .u64 1000), .lit (.int .u64 10000), .lit (.int .u64 100000), .lit (.int .u64 1000000), .lit (.int .u64 10000000), .lit (.int .u64 100000000), .lit (.int .u64 1000000000), .lit (.int .u64 10000000000), .lit (.int .u64 100000000000), .lit (.int .u64 1000000000000), .lit (.int .u64 10000000000000), .lit (.int .u64 100000000000000), .lit (.int .u64 1000000000000000), .lit (.int .u64 10000000000000000), .lit (.int .u64 100000000000000000), .lit (.int .u64 1000000000000000000), .lit (.int .u64 10000000000000000000)]
def laid_loop_example_s15618_impl_reserved {H : Type} : DataW H := .map [(.string [98, 111, 111, 108], .lit (.int .i64 1)), (.string [101, 108, 115, 101], .lit (.int .i64 1)), (.string [102, 97, 108, 115, 101], .lit (.int .i64 1)), (.string [102, 117, 110], .lit (.int .i64 1)), (.string [105, 102], .lit (.int .i64 1)), (.string [105, 109, 112, 111, 114, 116], .lit (.int .i64 1)), (.string [105, 110, 116], .lit (.int .i64 1)), (.string [116, 104, 101, 110], .lit (.int .i64 1)), (.string [116, 114, 117, 101], .lit (.int .i64 1)), (.string [116, 121, 112, 101], .lit (.int .i64 1)), (.string [118, 97, 108], .lit (.int .i64 1))]

/-- 'laws.FnExactShowOutcome': WHATEVER THE INPUT: true; the input reads as it did. -/
def fnExactShowOutcomeSpec : ChangeSpec := { name := "fnExactShowOutcome", fn := fun _ => fun
  | [d] => { results := [.lit (.bool true)], args := [d] }
  | _ => none }
def fnExactShowOutcomeRow : OpenClaim := { program := "ytidgimpdjfmbnaadoor", sum := "5c1a383500e793a185657e4ae1b97146a8d0efd27f2068e20ba5afa06834d243", func := "loop.example/s15618/laws.FnExactShowOutcome", spec := "fnExactShowOutcome", inPlace := ["internal/abi.NoEscape", "internal/bytealg.MakeNoZero"], recurses := true, named := ["internal/strconv.uint64pow10", "math/bits.deBruijn32tab", "math/bits.deBruijn64tab"], plainKeys := false, apart := false, laid := [("math/bits.deBruijn32tab", laid_math_bits_deBruijn32tab), ("math/bits.deBruijn64tab", laid_math_bits_deBruijn64tab), ("internal/strconv.uint64pow10", laid_internal_strconv_uint64pow10)] }
def FnExactShowOutcomeSaid : Prop := fnExactShowOutcomeRow.holds Tryd.pinned (OpenSpec.ofChange fnExactShowOutcomeSpec)

/-- ITS FALSE NEIGHBOUR: 'it returns false'. Refute it at one input. -/
def fnExactShowOutcomeWrong : ChangeSpec := { name := "fnExactShowOutcome", fn := fun _ => fun
  | [d] => { results := [.lit (.bool false)], args := [d] }
  | _ => none }
def FnExactShowOutcomeWrongFalsely : Prop := fnExactShowOutcomeRow.holds Tryd.pinned (OpenSpec.ofChange fnExactShowOutcomeWrong)

/-- 'laws.FnExactCanon': WHATEVER THE INPUT: true; the input reads as it did. -/
def fnExactCanonSpec : ChangeSpec := { name := "fnExactCanon", vars := ["loop.example/s15618/impl.reserved"], fn := fun _ => fun
  | [d1, d2, g1] => { results := [.lit (.bool true)], args := [d1, d2], vars := [g1] }
  | _ => none }
def fnExactCanonRow : OpenClaim := { program := "ytidgimpdjfmbnaadoor", sum := "5c1a383500e793a185657e4ae1b97146a8d0efd27f2068e20ba5afa06834d243", func := "loop.example/s15618/laws.FnExactCanon", spec := "fnExactCanon", inPlace := ["internal/abi.NoEscape"], unfollowed := true, recurses := true, named := ["loop.example/s15618/impl.reserved", "internal/strconv.uint64pow10", "math/bits.deBruijn32tab", "math/bits.deBruijn64tab"], maps := true, plainKeys := false, apart := false, laid := [("math/bits.deBruijn32tab", laid_math_bits_deBruijn32tab), ("math/bits.deBruijn64tab", laid_math_bits_deBruijn64tab), ("internal/strconv.uint64pow10", laid_internal_strconv_uint64pow10), ("loop.example/s15618/impl.reserved", laid_loop_example_s15618_impl_reserved)] }
def FnExactCanonSaid : Prop := fnExactCanonRow.holds Tryd.pinned (OpenSpec.ofChange fnExactCanonSpec)

/-- ITS FALSE NEIGHBOUR: 'it returns false'. Refute it at one input. -/
def fnExactCanonWrong : ChangeSpec := { name := "fnExactCanon", vars := ["loop.example/s15618/impl.reserved"], fn := fun _ => fun
  | [d1, d2, g1] => { results := [.lit (.bool false)], args := [d1, d2], vars := [g1] }
  | _ => none }
def FnExactCanonWrongFalsely : Prop := fnExactCanonRow.holds Tryd.pinned (OpenSpec.ofChange fnExactCanonWrong)

/-- 'laws.FnExactJoin': WHATEVER THE INPUT: true; the input reads as it did. -/
def fnExactJoinSpec : ChangeSpec := { name := "fnExactJoin", vars := ["loop.example/s15618/impl.reserved"], fn := fun _ => fun
  | [d1, d2, d3, g1] => { results := [.lit (.bool true)], args := [d1, d2, d3], vars := [g1] }
  | _ => none }
def fnExactJoinRow : OpenClaim := { program := "ytidgimpdjfmbnaadoor", sum := "5c1a383500e793a185657e4ae1b97146a8d0efd27f2068e20ba5afa06834d243", func := "loop.example/s15618/laws.FnExactJoin", spec := "fnExactJoin", inPlace := ["internal/abi.NoEscape"], unfollowed := true, recurses := true, named := ["loop.example/s15618/impl.reserved", "internal/strconv.uint64pow10", "math/bits.deBruijn32tab", "math/bits.deBruijn64tab"], maps := true, plainKeys := false, apart := false, laid := [("math/bits.deBruijn32tab", laid_math_bits_deBruijn32tab), ("math/bits.deBruijn64tab", laid_math_bits_deBruijn64tab), ("internal/strconv.uint64pow10", laid_internal_strconv_uint64pow10), ("loop.example/s15618/impl.reserved", laid_loop_example_s15618_impl_reserved)] }
def FnExactJoinSaid : Prop := fnExactJoinRow.holds Tryd.pinned (OpenSpec.ofChange fnExactJoinSpec)

/-- ITS FALSE NEIGHBOUR: 'it returns false'. Refute it at one input. -/
def fnExactJoinWrong : ChangeSpec := { name := "fnExactJoin", vars := ["loop.example/s15618/impl.reserved"], fn := fun _ => fun
  | [d1, d2, d3, g1] => { results := [.lit (.bool false)], args := [d1, d2, d3], vars := [g1] }
  | _ => none }
def FnExactJoinWrongFalsely : Prop := fnExactJoinRow.holds Tryd.pinned (OpenSpec.ofChange fnExactJoinWrong)

/-- 'laws.FnExactMeet': WHATEVER THE INPUT: true; the input reads as it did. -/
def fnExactMeetSpec : ChangeSpec := { name := "fnExactMeet", vars := ["loop.example/s15618/impl.reserved"], fn := fun _ => fun
  | [d1, d2, d3, g1] => { results := [.lit (.bool true)], args := [d1, d2, d3], vars := [g1] }
  | _ => none }
def fnExactMeetRow : OpenClaim := { program := "ytidgimpdjfmbnaadoor", sum := "5c1a383500e793a185657e4ae1b97146a8d0efd27f2068e20ba5afa06834d243", func := "loop.example/s15618/laws.FnExactMeet", spec := "fnExactMeet", inPlace := ["internal/abi.NoEscape"], unfollowed := true, recurses := true, named := ["loop.example/s15618/impl.reserved", "internal/strconv.uint64pow10", "math/bits.deBruijn32tab", "math/bits.deBruijn64tab"], maps := true, plainKeys := false, apart := false, laid := [("math/bits.deBruijn32tab", laid_math_bits_deBruijn32tab), ("math/bits.deBruijn64tab", laid_math_bits_deBruijn64tab), ("internal/strconv.uint64pow10", laid_internal_strconv_uint64pow10), ("loop.example/s15618/impl.reserved", laid_loop_example_s15618_impl_reserved)] }
def FnExactMeetSaid : Prop := fnExactMeetRow.holds Tryd.pinned (OpenSpec.ofChange fnExactMeetSpec)

/-- ITS FALSE NEIGHBOUR: 'it returns false'. Refute it at one input. -/
def fnExactMeetWrong : ChangeSpec := { name := "fnExactMeet", vars := ["loop.example/s15618/impl.reserved"], fn := fun _ => fun
  | [d1, d2, d3, g1] => { results := [.lit (.bool false)], args := [d1, d2, d3], vars := [g1] }
  | _ => none }
def FnExactMeetWrongFalsely : Prop := fnExactMeetRow.holds Tryd.pinned (OpenSpec.ofChange fnExactMeetWrong)

/-- 'laws.FnCanon': WHATEVER THE INPUT: true; the input reads as it did. -/
def fnCanonSpec : ChangeSpec := { name := "fnCanon", vars := ["loop.example/s15618/impl.reserved"], fn := fun _ => fun
  | [d, g1] => { results := [.lit (.bool true)], args := [d], vars := [g1] }
  | _ => none }
def fnCanonRow : OpenClaim := { program := "ytidgimpdjfmbnaadoor", sum := "5c1a383500e793a185657e4ae1b97146a8d0efd27f2068e20ba5afa06834d243", func := "loop.example/s15618/laws.FnCanon", spec := "fnCanon", inPlace := ["internal/abi.NoEscape"], unfollowed := true, recurses := true, named := ["loop.example/s15618/impl.reserved", "internal/strconv.uint64pow10", "math/bits.deBruijn32tab", "math/bits.deBruijn64tab"], maps := true, plainKeys := false, apart := false, laid := [("math/bits.deBruijn32tab", laid_math_bits_deBruijn32tab), ("math/bits.deBruijn64tab", laid_math_bits_deBruijn64tab), ("internal/strconv.uint64pow10", laid_internal_strconv_uint64pow10), ("loop.example/s15618/impl.reserved", laid_loop_example_s15618_impl_reserved)] }
def FnCanonSaid : Prop := fnCanonRow.holds Tryd.pinned (OpenSpec.ofChange fnCanonSpec)

/-- ITS FALSE NEIGHBOUR: 'it returns false'. Refute it at one input. -/
def fnCanonWrong : ChangeSpec := { name := "fnCanon", vars := ["loop.example/s15618/impl.reserved"], fn := fun _ => fun
  | [d, g1] => { results := [.lit (.bool false)], args := [d], vars := [g1] }
  | _ => none }
def FnCanonWrongFalsely : Prop := fnCanonRow.holds Tryd.pinned (OpenSpec.ofChange fnCanonWrong)

/-- 'laws.FnJoin': WHATEVER THE INPUT: true; the input reads as it did. -/
def fnJoinSpec : ChangeSpec := { name := "fnJoin", vars := ["loop.example/s15618/impl.reserved"], fn := fun _ => fun
  | [d, g1] => { results := [.lit (.bool true)], args := [d], vars := [g1] }
  | _ => none }
def fnJoinRow : OpenClaim := { program := "ytidgimpdjfmbnaadoor", sum := "5c1a383500e793a185657e4ae1b97146a8d0efd27f2068e20ba5afa06834d243", func := "loop.example/s15618/laws.FnJoin", spec := "fnJoin", inPlace := ["internal/abi.NoEscape"], unfollowed := true, recurses := true, named := ["loop.example/s15618/impl.reserved", "internal/strconv.uint64pow10", "math/bits.deBruijn32tab", "math/bits.deBruijn64tab"], maps := true, plainKeys := false, apart := false, laid := [("math/bits.deBruijn32tab", laid_math_bits_deBruijn32tab), ("math/bits.deBruijn64tab", laid_math_bits_deBruijn64tab), ("internal/strconv.uint64pow10", laid_internal_strconv_uint64pow10), ("loop.example/s15618/impl.reserved", laid_loop_example_s15618_impl_reserved)] }
def FnJoinSaid : Prop := fnJoinRow.holds Tryd.pinned (OpenSpec.ofChange fnJoinSpec)

/-- ITS FALSE NEIGHBOUR: 'it returns false'. Refute it at one input. -/
def fnJoinWrong : ChangeSpec := { name := "fnJoin", vars := ["loop.example/s15618/impl.reserved"], fn := fun _ => fun
  | [d, g1] => { results := [.lit (.bool false)], args := [d], vars := [g1] }
  | _ => none }
def FnJoinWrongFalsely : Prop := fnJoinRow.holds Tryd.pinned (OpenSpec.ofChange fnJoinWrong)

/- THE SECOND FORM. 'bulk': how many values and letters a reading holds, each counted each time it is reached (what is shared counts as often as it is met; a slice's spare places count too). A statement '..UptoSaid' is the law's where the arguments, and the package variables that the reading takes, are together of bulk at most 1048576: NARROWER than '..Said'. Prove '..Said' where nothing that the law and all that it calls make is longer than what came in: it says more and counts as full. Else prove '..UptoSaid'. A law counts once. -/
mutual
def uptoBulk {H : Type} : DataW H → Nat
  | .lit (.string bytes) => bytes.length + 1
  | .lit _ => 1
  | .nil => 1
  | .ptr d => uptoBulk d + 1
  | .slice elems spare => uptoBulkAll elems + uptoBulkAll spare + 1
  | .agg parts => uptoBulkAll parts + 1
  | .iface _ d => uptoBulk d + 1
  | .map entries => uptoBulkEntries entries + 1
  | .held _ => 1
def uptoBulkAll {H : Type} : List (DataW H) → Nat
  | [] => 0
  | d :: r => uptoBulk d + uptoBulkAll r
def uptoBulkEntries {H : Type} : List (Lit × DataW H) → Nat
  | [] => 0
  | x :: r => uptoBulkEntry x + uptoBulkEntries r
def uptoBulkEntry {H : Type} : Lit × DataW H → Nat
  | (.string bytes, d) => bytes.length + uptoBulk d + 1
  | (_, d) => uptoBulk d + 1
 end
def uptoSmall : (H : Type) → List (DataW H) → Bool := fun _ ds => decide (uptoBulkAll ds ≤ 1048576)
def OpenSpec.upto (s : _root_.Go.ChangeSpec) : _root_.Go.OpenSpec := { _root_.Go.OpenSpec.ofChange s with cond := some uptoSmall }

/-- 'laws.FnExactShowOutcome', WHERE WHAT IT READS IS OF BULK AT MOST 1048576: true; the input reads as it did. -/
def fnExactShowOutcomeUptoRow : OpenClaim := { program := "ytidgimpdjfmbnaadoor", sum := "5c1a383500e793a185657e4ae1b97146a8d0efd27f2068e20ba5afa06834d243", func := "loop.example/s15618/laws.FnExactShowOutcome", spec := "fnExactShowOutcome", inPlace := ["internal/abi.NoEscape", "internal/bytealg.MakeNoZero"], recurses := true, named := ["internal/strconv.uint64pow10", "math/bits.deBruijn32tab", "math/bits.deBruijn64tab"], plainKeys := false, apart := false, laid := [("math/bits.deBruijn32tab", laid_math_bits_deBruijn32tab), ("math/bits.deBruijn64tab", laid_math_bits_deBruijn64tab), ("internal/strconv.uint64pow10", laid_internal_strconv_uint64pow10)], narrowed := true }
def FnExactShowOutcomeUptoSaid : Prop := fnExactShowOutcomeUptoRow.holds Tryd.pinned (OpenSpec.upto fnExactShowOutcomeSpec)

/-- 'laws.FnExactCanon', WHERE WHAT IT READS IS OF BULK AT MOST 1048576: true; the input reads as it did. -/
def fnExactCanonUptoRow : OpenClaim := { program := "ytidgimpdjfmbnaadoor", sum := "5c1a383500e793a185657e4ae1b97146a8d0efd27f2068e20ba5afa06834d243", func := "loop.example/s15618/laws.FnExactCanon", spec := "fnExactCanon", inPlace := ["internal/abi.NoEscape"], unfollowed := true, recurses := true, named := ["loop.example/s15618/impl.reserved", "internal/strconv.uint64pow10", "math/bits.deBruijn32tab", "math/bits.deBruijn64tab"], maps := true, plainKeys := false, apart := false, laid := [("math/bits.deBruijn32tab", laid_math_bits_deBruijn32tab), ("math/bits.deBruijn64tab", laid_math_bits_deBruijn64tab), ("internal/strconv.uint64pow10", laid_internal_strconv_uint64pow10), ("loop.example/s15618/impl.reserved", laid_loop_example_s15618_impl_reserved)], narrowed := true }
def FnExactCanonUptoSaid : Prop := fnExactCanonUptoRow.holds Tryd.pinned (OpenSpec.upto fnExactCanonSpec)

/-- 'laws.FnExactJoin', WHERE WHAT IT READS IS OF BULK AT MOST 1048576: true; the input reads as it did. -/
def fnExactJoinUptoRow : OpenClaim := { program := "ytidgimpdjfmbnaadoor", sum := "5c1a383500e793a185657e4ae1b97146a8d0efd27f2068e20ba5afa06834d243", func := "loop.example/s15618/laws.FnExactJoin", spec := "fnExactJoin", inPlace := ["internal/abi.NoEscape"], unfollowed := true, recurses := true, named := ["loop.example/s15618/impl.reserved", "internal/strconv.uint64pow10", "math/bits.deBruijn32tab", "math/bits.deBruijn64tab"], maps := true, plainKeys := false, apart := false, laid := [("math/bits.deBruijn32tab", laid_math_bits_deBruijn32tab), ("math/bits.deBruijn64tab", laid_math_bits_deBruijn64tab), ("internal/strconv.uint64pow10", laid_internal_strconv_uint64pow10), ("loop.example/s15618/impl.reserved", laid_loop_example_s15618_impl_reserved)], narrowed := true }
def FnExactJoinUptoSaid : Prop := fnExactJoinUptoRow.holds Tryd.pinned (OpenSpec.upto fnExactJoinSpec)

/-- 'laws.FnExactMeet', WHERE WHAT IT READS IS OF BULK AT MOST 1048576: true; the input reads as it did. -/
def fnExactMeetUptoRow : OpenClaim := { program := "ytidgimpdjfmbnaadoor", sum := "5c1a383500e793a185657e4ae1b97146a8d0efd27f2068e20ba5afa06834d243", func := "loop.example/s15618/laws.FnExactMeet", spec := "fnExactMeet", inPlace := ["internal/abi.NoEscape"], unfollowed := true, recurses := true, named := ["loop.example/s15618/impl.reserved", "internal/strconv.uint64pow10", "math/bits.deBruijn32tab", "math/bits.deBruijn64tab"], maps := true, plainKeys := false, apart := false, laid := [("math/bits.deBruijn32tab", laid_math_bits_deBruijn32tab), ("math/bits.deBruijn64tab", laid_math_bits_deBruijn64tab), ("internal/strconv.uint64pow10", laid_internal_strconv_uint64pow10), ("loop.example/s15618/impl.reserved", laid_loop_example_s15618_impl_reserved)], narrowed := true }
def FnExactMeetUptoSaid : Prop := fnExactMeetUptoRow.holds Tryd.pinned (OpenSpec.upto fnExactMeetSpec)

/-- 'laws.FnCanon', WHERE WHAT IT READS IS OF BULK AT MOST 1048576: true; the input reads as it did. -/
def fnCanonUptoRow : OpenClaim := { program := "ytidgimpdjfmbnaadoor", sum := "5c1a383500e793a185657e4ae1b97146a8d0efd27f2068e20ba5afa06834d243", func := "loop.example/s15618/laws.FnCanon", spec := "fnCanon", inPlace := ["internal/abi.NoEscape"], unfollowed := true, recurses := true, named := ["loop.example/s15618/impl.reserved", "internal/strconv.uint64pow10", "math/bits.deBruijn32tab", "math/bits.deBruijn64tab"], maps := true, plainKeys := false, apart := false, laid := [("math/bits.deBruijn32tab", laid_math_bits_deBruijn32tab), ("math/bits.deBruijn64tab", laid_math_bits_deBruijn64tab), ("internal/strconv.uint64pow10", laid_internal_strconv_uint64pow10), ("loop.example/s15618/impl.reserved", laid_loop_example_s15618_impl_reserved)], narrowed := true }
def FnCanonUptoSaid : Prop := fnCanonUptoRow.holds Tryd.pinned (OpenSpec.upto fnCanonSpec)

/-- 'laws.FnJoin', WHERE WHAT IT READS IS OF BULK AT MOST 1048576: true; the input reads as it did. -/
def fnJoinUptoRow : OpenClaim := { program := "ytidgimpdjfmbnaadoor", sum := "5c1a383500e793a185657e4ae1b97146a8d0efd27f2068e20ba5afa06834d243", func := "loop.example/s15618/laws.FnJoin", spec := "fnJoin", inPlace := ["internal/abi.NoEscape"], unfollowed := true, recurses := true, named := ["loop.example/s15618/impl.reserved", "internal/strconv.uint64pow10", "math/bits.deBruijn32tab", "math/bits.deBruijn64tab"], maps := true, plainKeys := false, apart := false, laid := [("math/bits.deBruijn32tab", laid_math_bits_deBruijn32tab), ("math/bits.deBruijn64tab", laid_math_bits_deBruijn64tab), ("internal/strconv.uint64pow10", laid_internal_strconv_uint64pow10), ("loop.example/s15618/impl.reserved", laid_loop_example_s15618_impl_reserved)], narrowed := true }
def FnJoinUptoSaid : Prop := fnJoinUptoRow.holds Tryd.pinned (OpenSpec.upto fnJoinSpec)

end Rows
end Go.Proofs.YtidgimpdjfmbnaaDoor
