/-
  NARROWER THAN 'FOR EVERY INPUT', by the rows' own cells (each row's printed sentence says how): FnEditJoin: laid · FnSels: laid · FnEditsDo: laid · FnEditOf: laid · FnExactOutText: laid · FnExactRopeEdit: laid · FnExactRopeSplit: laid · FnRopeSplit: laid · FnRopeText: laid.
  DERIVED. THE GIVEN ROWS OF THIS SEAT. 9 by the template 'for every input the law returns true; each argument reads behind the call as it read before'; 0 by the template 'total and deterministic' (their statements: YteapbiiffcchbaaDoorTotals.lean).
  GIVEN WITH THE SEED: the statements are not yours to turn. If you find one false, say at which input.
  Laid BY PROGRAM, IN A SANDBOX (cutbox-rows.mjs): the forced cells as the released guide's own fill.sh prints them over the translation dc2fa1172e079960… (all of the seat's roots in one cut). By AI agents, Wed Nov 11 2026. No macro, syntax, notation, axiom, sorry.
-/
import Derived.Test.YteapbiiffcchbaaDoorChecked
import GoSem.PinnedTables
import GoSem.Claim
import GoSem.ClaimJoined
import GoSem.ClaimMapViews
import Derived.JoinedTies
import Derived.KernelRfl
namespace Go.Proofs.YteapbiiffcchbaaDoor
/- THE CELL 'sum', in the pinned program and in every row, IS THE sha256 OF THE DUMP (.gsa) THAT YteapbiiffcchbaaDoorProg.lean LOADS. Nothing in Lean hashes anything: it is a label: what it is worth is what the hold of that sum in a sandbox is worth. -/
noncomputable def Tryd.pinned : Pinned := { name := "yteapbiiffcchbaadoor", sum := "dc2fa1172e079960631c804811e37394e8a10bd0a11573398181e6d81710c109", checked := Tryd.checked }
namespace Rows
def none {H : Type} : Left H := { results := [], args := [] }

/- WHAT THE LISTED PACKAGE-LEVEL VARIABLES READ AS WHEN THE CALL BEGINS. Each datum BY PROGRAM (the guide's laid-datum.mjs) off the statement by which the dump's own 'gosem.cut.vars' lays the variable. In a bare row this is a premise. The card (YteapbiiffcchbaaDoorCards.lean) ties it to the program's text. -/
def laid_unicode_utf8_acceptRanges {H : Type} : DataW H := .agg [.agg [.lit (.int .u8 128), .lit (.int .u8 191)], .agg [.lit (.int .u8 160), .lit (.int .u8 191)], .agg [.lit (.int .u8 128), .lit (.int .u8 159)], .agg [.lit (.int .u8 144), .lit (.int .u8 191)], .agg [.lit (.int .u8 128), .lit (.int .u8 143)], .agg [.lit (.int .u8 0), .lit (.int .u8 0)], .agg [.lit (.int .u8 0), .lit (.int .u8 0)], .agg [.lit (.int .u8 0), .lit (.int .u8 0)], .agg [.lit (.int .u8 0), .lit (.int .u8 0)], .agg [.lit (.int .u8 0), .lit (.int .u8 0)], .agg [.lit (.int .u8 0), .lit (.int .u8 0)], .agg [.lit (.int .u8 0), .lit (.int .u8 0)], .agg [.lit (.int .u8 0), .lit (.int .u8 0)], .agg [.lit (.int .u8 0), .lit (.int .u8 0)], .agg [.lit (.int .u8 0), .lit (.int .u8 0)], .agg [.lit (.int .u8 0), .lit (.int .u8 0)]]
/-- One of Go's own tables, pinned by name: the form's constant. -/
def laid_unicode_utf8_first : DataW Unit := Go.Pinned.utf8First
def laid_math_bits_deBruijn32tab {H : Type} : DataW H := .agg [.lit (.int .u8 0), .lit (.int .u8 1), .lit (.int .u8 28), .lit (.int .u8 2), .lit (.int .u8 29), .lit (.int .u8 14), .lit (.int .u8 24), .lit (.int .u8 3), .lit (.int .u8 30), .lit (.int .u8 22), .lit (.int .u8 20), .lit (.int .u8 15), .lit (.int .u8 25), .lit (.int .u8 17), .lit (.int .u8 4), .lit (.int .u8 8), .lit (.int .u8 31), .lit (.int .u8 27), .lit (.int .u8 13), .lit (.int .u8 23), .lit (.int .u8 21), .lit (.int .u8 19), .lit (.int .u8 16), .lit (.int .u8 7), .lit (.int .u8 26), .lit (.int .u8 12), .lit (.int .u8 18), .lit (.int .u8 6), .lit (.int .u8 11), .lit (.int .u8 5), .lit (.int .u8 10), .lit (.int .u8 9)]
def laid_math_bits_deBruijn64tab {H : Type} : DataW H := .agg [.lit (.int .u8 0), .lit (.int .u8 1), .lit (.int .u8 56), .lit (.int .u8 2), .lit (.int .u8 57), .lit (.int .u8 49), .lit (.int .u8 28), .lit (.int .u8 3), .lit (.int .u8 61), .lit (.int .u8 58), .lit (.int .u8 42), .lit (.int .u8 50), .lit (.int .u8 38), .lit (.int .u8 29), .lit (.int .u8 17), .lit (.int .u8 4), .lit (.int .u8 62), .lit (.int .u8 47), .lit (.int .u8 59), .lit (.int .u8 36), .lit (.int .u8 45), .lit (.int .u8 43), .lit (.int .u8 51), .lit (.int .u8 22), .lit (.int .u8 53), .lit (.int .u8 39), .lit (.int .u8 33), .lit (.int .u8 30), .lit (.int .u8 24), .lit (.int .u8 18), .lit (.int .u8 12), .lit (.int .u8 5), .lit (.int .u8 63), .lit (.int .u8 55), .lit (.int .u8 48), .lit (.int .u8 27), .lit (.int .u8 60), .lit (.int .u8 41), .lit (.int .u8 37), .lit (.int .u8 16), .lit (.int .u8 46), .lit (.int .u8 35), .lit (.int .u8 44), .lit (.int .u8 21), .lit (.int .u8 52), .lit (.int .u8 32), .lit (.int .u8 23), .lit (.int .u8 11), .lit (.int .u8 54), .lit (.int .u8 26), .lit (.int .u8 40), .lit (.int .u8 15), .lit (.int .u8 34), .lit (.int .u8 20), .lit (.int .u8 31), .lit (.int .u8 10), .lit (.int .u8 25), .lit (.int .u8 14), .lit (.int .u8 19), .lit (.int .u8 9), .lit (.int .u8 13), .lit (.int .u8 8), .lit (.int .u8 7), .lit (.int .u8 6)]
def laid_internal_strconv_uint64pow10 {H : Type} : DataW H := .agg [.lit (.int .u64 1), .lit (.int .u64 10), .lit (.int .u64 100), .lit (.int .u64 1000), .lit (.int .u64 10000), .lit (.int .u64 100000), .lit (.int .u64 1000000), .lit (.int .u64 10000000), .lit (.int .u64 100000000), .lit (.int .u64 1000000000), .lit (.int .u64 10000000000), .lit (.int .u64 100000000000), .lit (.int .u64 1000000000000), .lit (.int .u64 10000000000000), .lit (.int .u64 100000000000000), .lit (.int .u64 1000000000000000), .lit (.int .u64 10000000000000000), .lit (.int .u64 100000000000000000), .lit (.int .u64 1000000000000000000), .lit (.int .u64 10000000000000000000)]

/-- 'laws.FnEditJoin': WHATEVER THE INPUT: true; the input reads as it did. -/
def fnEditJoinSpec : ChangeSpec := { name := "fnEditJoin", fn := fun _ => fun
  | [d] => { results := [.lit (.bool true)], args := [d] }
  | _ => none }
def fnEditJoinRow : OpenClaim := { program := "yteapbiiffcchbaadoor", sum := "dc2fa1172e079960631c804811e37394e8a10bd0a11573398181e6d81710c109", func := "loop.example/g00677/laws.FnEditJoin", spec := "fnEditJoin", named := ["unicode/utf8.first", "unicode/utf8.acceptRanges"], apart := false, laid := [("unicode/utf8.acceptRanges", laid_unicode_utf8_acceptRanges), ("unicode/utf8.first", laid_unicode_utf8_first)] }
def FnEditJoinSaid : Prop := fnEditJoinRow.holds Tryd.pinned (OpenSpec.ofChange fnEditJoinSpec)

/-- ITS FALSE NEIGHBOUR: 'it returns false'. Refute it at one input. -/
def fnEditJoinWrong : ChangeSpec := { name := "fnEditJoin", fn := fun _ => fun
  | [d] => { results := [.lit (.bool false)], args := [d] }
  | _ => none }
def FnEditJoinWrongFalsely : Prop := fnEditJoinRow.holds Tryd.pinned (OpenSpec.ofChange fnEditJoinWrong)

/-- 'laws.FnSels': WHATEVER THE INPUT: true; the input reads as it did. -/
def fnSelsSpec : ChangeSpec := { name := "fnSels", fn := fun _ => fun
  | [d] => { results := [.lit (.bool true)], args := [d] }
  | _ => none }
def fnSelsRow : OpenClaim := { program := "yteapbiiffcchbaadoor", sum := "dc2fa1172e079960631c804811e37394e8a10bd0a11573398181e6d81710c109", func := "loop.example/g00677/laws.FnSels", spec := "fnSels", named := ["unicode/utf8.first", "unicode/utf8.acceptRanges"], apart := false, laid := [("unicode/utf8.acceptRanges", laid_unicode_utf8_acceptRanges), ("unicode/utf8.first", laid_unicode_utf8_first)] }
def FnSelsSaid : Prop := fnSelsRow.holds Tryd.pinned (OpenSpec.ofChange fnSelsSpec)

/-- ITS FALSE NEIGHBOUR: 'it returns false'. Refute it at one input. -/
def fnSelsWrong : ChangeSpec := { name := "fnSels", fn := fun _ => fun
  | [d] => { results := [.lit (.bool false)], args := [d] }
  | _ => none }
def FnSelsWrongFalsely : Prop := fnSelsRow.holds Tryd.pinned (OpenSpec.ofChange fnSelsWrong)

/-- 'laws.FnEditsDo': WHATEVER THE INPUT: true; the input reads as it did. -/
def fnEditsDoSpec : ChangeSpec := { name := "fnEditsDo", fn := fun _ => fun
  | [d] => { results := [.lit (.bool true)], args := [d] }
  | _ => none }
def fnEditsDoRow : OpenClaim := { program := "yteapbiiffcchbaadoor", sum := "dc2fa1172e079960631c804811e37394e8a10bd0a11573398181e6d81710c109", func := "loop.example/g00677/laws.FnEditsDo", spec := "fnEditsDo", named := ["unicode/utf8.first", "unicode/utf8.acceptRanges"], apart := false, laid := [("unicode/utf8.acceptRanges", laid_unicode_utf8_acceptRanges), ("unicode/utf8.first", laid_unicode_utf8_first)] }
def FnEditsDoSaid : Prop := fnEditsDoRow.holds Tryd.pinned (OpenSpec.ofChange fnEditsDoSpec)

/-- ITS FALSE NEIGHBOUR: 'it returns false'. Refute it at one input. -/
def fnEditsDoWrong : ChangeSpec := { name := "fnEditsDo", fn := fun _ => fun
  | [d] => { results := [.lit (.bool false)], args := [d] }
  | _ => none }
def FnEditsDoWrongFalsely : Prop := fnEditsDoRow.holds Tryd.pinned (OpenSpec.ofChange fnEditsDoWrong)

/-- 'laws.FnEditOf': WHATEVER THE INPUT: true; the input reads as it did. -/
def fnEditOfSpec : ChangeSpec := { name := "fnEditOf", fn := fun _ => fun
  | [d] => { results := [.lit (.bool true)], args := [d] }
  | _ => none }
def fnEditOfRow : OpenClaim := { program := "yteapbiiffcchbaadoor", sum := "dc2fa1172e079960631c804811e37394e8a10bd0a11573398181e6d81710c109", func := "loop.example/g00677/laws.FnEditOf", spec := "fnEditOf", named := ["unicode/utf8.first", "unicode/utf8.acceptRanges"], apart := false, laid := [("unicode/utf8.acceptRanges", laid_unicode_utf8_acceptRanges), ("unicode/utf8.first", laid_unicode_utf8_first)] }
def FnEditOfSaid : Prop := fnEditOfRow.holds Tryd.pinned (OpenSpec.ofChange fnEditOfSpec)

/-- ITS FALSE NEIGHBOUR: 'it returns false'. Refute it at one input. -/
def fnEditOfWrong : ChangeSpec := { name := "fnEditOf", fn := fun _ => fun
  | [d] => { results := [.lit (.bool false)], args := [d] }
  | _ => none }
def FnEditOfWrongFalsely : Prop := fnEditOfRow.holds Tryd.pinned (OpenSpec.ofChange fnEditOfWrong)

/-- 'laws.FnExactOutText': WHATEVER THE INPUT: true; the input reads as it did. -/
def fnExactOutTextSpec : ChangeSpec := { name := "fnExactOutText", fn := fun _ => fun
  | [d] => { results := [.lit (.bool true)], args := [d] }
  | _ => none }
def fnExactOutTextRow : OpenClaim := { program := "yteapbiiffcchbaadoor", sum := "dc2fa1172e079960631c804811e37394e8a10bd0a11573398181e6d81710c109", func := "loop.example/g00677/laws.FnExactOutText", spec := "fnExactOutText", inPlace := ["internal/abi.NoEscape", "internal/bytealg.MakeNoZero"], named := ["internal/strconv.uint64pow10", "math/bits.deBruijn32tab", "math/bits.deBruijn64tab"], apart := false, laid := [("math/bits.deBruijn32tab", laid_math_bits_deBruijn32tab), ("math/bits.deBruijn64tab", laid_math_bits_deBruijn64tab), ("internal/strconv.uint64pow10", laid_internal_strconv_uint64pow10)] }
def FnExactOutTextSaid : Prop := fnExactOutTextRow.holds Tryd.pinned (OpenSpec.ofChange fnExactOutTextSpec)

/-- ITS FALSE NEIGHBOUR: 'it returns false'. Refute it at one input. -/
def fnExactOutTextWrong : ChangeSpec := { name := "fnExactOutText", fn := fun _ => fun
  | [d] => { results := [.lit (.bool false)], args := [d] }
  | _ => none }
def FnExactOutTextWrongFalsely : Prop := fnExactOutTextRow.holds Tryd.pinned (OpenSpec.ofChange fnExactOutTextWrong)

/-- 'laws.FnExactRopeEdit': WHATEVER THE INPUT: true; the input reads as it did. -/
def fnExactRopeEditSpec : ChangeSpec := { name := "fnExactRopeEdit", fn := fun _ => fun
  | [d1, d2, d3, d4] => { results := [.lit (.bool true)], args := [d1, d2, d3, d4] }
  | _ => none }
def fnExactRopeEditRow : OpenClaim := { program := "yteapbiiffcchbaadoor", sum := "dc2fa1172e079960631c804811e37394e8a10bd0a11573398181e6d81710c109", func := "loop.example/g00677/laws.FnExactRopeEdit", spec := "fnExactRopeEdit", named := ["unicode/utf8.first", "unicode/utf8.acceptRanges"], apart := false, laid := [("unicode/utf8.acceptRanges", laid_unicode_utf8_acceptRanges), ("unicode/utf8.first", laid_unicode_utf8_first)] }
def FnExactRopeEditSaid : Prop := fnExactRopeEditRow.holds Tryd.pinned (OpenSpec.ofChange fnExactRopeEditSpec)

/-- ITS FALSE NEIGHBOUR: 'it returns false'. Refute it at one input. -/
def fnExactRopeEditWrong : ChangeSpec := { name := "fnExactRopeEdit", fn := fun _ => fun
  | [d1, d2, d3, d4] => { results := [.lit (.bool false)], args := [d1, d2, d3, d4] }
  | _ => none }
def FnExactRopeEditWrongFalsely : Prop := fnExactRopeEditRow.holds Tryd.pinned (OpenSpec.ofChange fnExactRopeEditWrong)

/-- 'laws.FnExactRopeSplit': WHATEVER THE INPUT: true; the input reads as it did. -/
def fnExactRopeSplitSpec : ChangeSpec := { name := "fnExactRopeSplit", fn := fun _ => fun
  | [d1, d2] => { results := [.lit (.bool true)], args := [d1, d2] }
  | _ => none }
def fnExactRopeSplitRow : OpenClaim := { program := "yteapbiiffcchbaadoor", sum := "dc2fa1172e079960631c804811e37394e8a10bd0a11573398181e6d81710c109", func := "loop.example/g00677/laws.FnExactRopeSplit", spec := "fnExactRopeSplit", named := ["unicode/utf8.first", "unicode/utf8.acceptRanges"], apart := false, laid := [("unicode/utf8.acceptRanges", laid_unicode_utf8_acceptRanges), ("unicode/utf8.first", laid_unicode_utf8_first)] }
def FnExactRopeSplitSaid : Prop := fnExactRopeSplitRow.holds Tryd.pinned (OpenSpec.ofChange fnExactRopeSplitSpec)

/-- ITS FALSE NEIGHBOUR: 'it returns false'. Refute it at one input. -/
def fnExactRopeSplitWrong : ChangeSpec := { name := "fnExactRopeSplit", fn := fun _ => fun
  | [d1, d2] => { results := [.lit (.bool false)], args := [d1, d2] }
  | _ => none }
def FnExactRopeSplitWrongFalsely : Prop := fnExactRopeSplitRow.holds Tryd.pinned (OpenSpec.ofChange fnExactRopeSplitWrong)

/-- 'laws.FnRopeSplit': WHATEVER THE INPUT: true; the input reads as it did. -/
def fnRopeSplitSpec : ChangeSpec := { name := "fnRopeSplit", fn := fun _ => fun
  | [d] => { results := [.lit (.bool true)], args := [d] }
  | _ => none }
def fnRopeSplitRow : OpenClaim := { program := "yteapbiiffcchbaadoor", sum := "dc2fa1172e079960631c804811e37394e8a10bd0a11573398181e6d81710c109", func := "loop.example/g00677/laws.FnRopeSplit", spec := "fnRopeSplit", inPlace := ["internal/bytealg.Count", "internal/bytealg.IndexByte", "internal/bytealg.Index"], named := ["unicode/utf8.first", "unicode/utf8.acceptRanges", "internal/bytealg.MaxLen"], apart := false, laid := [("unicode/utf8.acceptRanges", laid_unicode_utf8_acceptRanges), ("unicode/utf8.first", laid_unicode_utf8_first)] }
def FnRopeSplitSaid : Prop := fnRopeSplitRow.holds Tryd.pinned (OpenSpec.ofChange fnRopeSplitSpec)

/-- ITS FALSE NEIGHBOUR: 'it returns false'. Refute it at one input. -/
def fnRopeSplitWrong : ChangeSpec := { name := "fnRopeSplit", fn := fun _ => fun
  | [d] => { results := [.lit (.bool false)], args := [d] }
  | _ => none }
def FnRopeSplitWrongFalsely : Prop := fnRopeSplitRow.holds Tryd.pinned (OpenSpec.ofChange fnRopeSplitWrong)

/-- 'laws.FnRopeText': WHATEVER THE INPUT: true; the input reads as it did. -/
def fnRopeTextSpec : ChangeSpec := { name := "fnRopeText", fn := fun _ => fun
  | [d] => { results := [.lit (.bool true)], args := [d] }
  | _ => none }
def fnRopeTextRow : OpenClaim := { program := "yteapbiiffcchbaadoor", sum := "dc2fa1172e079960631c804811e37394e8a10bd0a11573398181e6d81710c109", func := "loop.example/g00677/laws.FnRopeText", spec := "fnRopeText", inPlace := ["internal/bytealg.Count", "internal/bytealg.IndexByte", "internal/bytealg.Index"], named := ["unicode/utf8.first", "unicode/utf8.acceptRanges", "internal/bytealg.MaxLen"], apart := false, laid := [("unicode/utf8.acceptRanges", laid_unicode_utf8_acceptRanges), ("unicode/utf8.first", laid_unicode_utf8_first)] }
def FnRopeTextSaid : Prop := fnRopeTextRow.holds Tryd.pinned (OpenSpec.ofChange fnRopeTextSpec)

/-- ITS FALSE NEIGHBOUR: 'it returns false'. Refute it at one input. -/
def fnRopeTextWrong : ChangeSpec := { name := "fnRopeText", fn := fun _ => fun
  | [d] => { results := [.lit (.bool false)], args := [d] }
  | _ => none }
def FnRopeTextWrongFalsely : Prop := fnRopeTextRow.holds Tryd.pinned (OpenSpec.ofChange fnRopeTextWrong)

/- THE SECOND FORM. 'bulk': how many values and letters a reading holds, each counted each time it is reached (what is shared counts as often as it is met; a slice's spare places count too). A statement '..UptoSaid' is the law's where the arguments, and the package variables that the reading takes, are together of bulk at most 1048576: NARROWER than '..Said'. Prove '..Said' where nothing that the law and all that it calls make is longer than what came in: it says more and counts as full. Else prove '..UptoSaid'. A law counts once. -/
mutual
def uptoBulk {H : Type} : DataW H → Nat
  | .lit (.string bytes) => bytes.length + 1
  | .lit _ => 1
  | .nil => 1
  | .ptr d => uptoBulk d + 1
  | .slice elems spare => uptoBulkAll elems + uptoBulkAll spare + 1
  | .agg parts => uptoBulkAll parts + 1
  | .iface _ d => uptoBulk d + 1
  | .map entries => uptoBulkEntries entries + 1
  | .held _ => 1
def uptoBulkAll {H : Type} : List (DataW H) → Nat
  | [] => 0
  | d :: r => uptoBulk d + uptoBulkAll r
def uptoBulkEntries {H : Type} : List (Lit × DataW H) → Nat
  | [] => 0
  | x :: r => uptoBulkEntry x + uptoBulkEntries r
def uptoBulkEntry {H : Type} : Lit × DataW H → Nat
  | (.string bytes, d) => bytes.length + uptoBulk d + 1
  | (_, d) => uptoBulk d + 1
 end
def uptoSmall : (H : Type) → List (DataW H) → Bool := fun _ ds => decide (uptoBulkAll ds ≤ 1048576)
def OpenSpec.upto (s : _root_.Go.ChangeSpec) : _root_.Go.OpenSpec := { _root_.Go.OpenSpec.ofChange s with cond := some uptoSmall }

/-- 'laws.FnEditJoin', WHERE WHAT IT READS IS OF BULK AT MOST 1048576: true; the input reads as it did. -/
def fnEditJoinUptoRow : OpenClaim := { program := "yteapbiiffcchbaadoor", sum := "dc2fa1172e079960631c804811e37394e8a10bd0a11573398181e6d81710c109", func := "loop.example/g00677/laws.FnEditJoin", spec := "fnEditJoin", named := ["unicode/utf8.first", "unicode/utf8.acceptRanges"], apart := false, laid := [("unicode/utf8.acceptRanges", laid_unicode_utf8_acceptRanges), ("unicode/utf8.first", laid_unicode_utf8_first)], narrowed := true }
def FnEditJoinUptoSaid : Prop := fnEditJoinUptoRow.holds Tryd.pinned (OpenSpec.upto fnEditJoinSpec)

/-- 'laws.FnSels', WHERE WHAT IT READS IS OF BULK AT MOST 1048576: true; the input reads as it did. -/
def fnSelsUptoRow : OpenClaim := { program := "yteapbiiffcchbaadoor", sum := "dc2fa1172e079960631c804811e37394e8a10bd0a11573398181e6d81710c109", func := "loop.example/g00677/laws.FnSels", spec := "fnSels", named := ["unicode/utf8.first", "unicode/utf8.acceptRanges"], apart := false, laid := [("unicode/utf8.acceptRanges", laid_unicode_utf8_acceptRanges), ("unicode/utf8.first", laid_unicode_utf8_first)], narrowed := true }
def FnSelsUptoSaid : Prop := fnSelsUptoRow.holds Tryd.pinned (OpenSpec.upto fnSelsSpec)

/-- 'laws.FnEditsDo', WHERE WHAT IT READS IS OF BULK AT MOST 1048576: true; the input reads as it did. -/
def fnEditsDoUptoRow : OpenClaim := { program := "yteapbiiffcchbaadoor", sum := "dc2fa1172e079960631c804811e37394e8a10bd0a11573398181e6d81710c109", func := "loop.example/g00677/laws.FnEditsDo", spec := "fnEditsDo", named := ["unicode/utf8.first", "unicode/utf8.acceptRanges"], apart := false, laid := [("unicode/utf8.acceptRanges", laid_unicode_utf8_acceptRanges), ("unicode/utf8.first", laid_unicode_utf8_first)], narrowed := true }
def FnEditsDoUptoSaid : Prop := fnEditsDoUptoRow.holds Tryd.pinned (OpenSpec.upto fnEditsDoSpec)

/-- 'laws.FnEditOf', WHERE WHAT IT READS IS OF BULK AT MOST 1048576: true; the input reads as it did. -/
def fnEditOfUptoRow : OpenClaim := { program := "yteapbiiffcchbaadoor", sum := "dc2fa1172e079960631c804811e37394e8a10bd0a11573398181e6d81710c109", func := "loop.example/g00677/laws.FnEditOf", spec := "fnEditOf", named := ["unicode/utf8.first", "unicode/utf8.acceptRanges"], apart := false, laid := [("unicode/utf8.acceptRanges", laid_unicode_utf8_acceptRanges), ("unicode/utf8.first", laid_unicode_utf8_first)], narrowed := true }
def FnEditOfUptoSaid : Prop := fnEditOfUptoRow.holds Tryd.pinned (OpenSpec.upto fnEditOfSpec)

/-- 'laws.FnExactOutText', WHERE WHAT IT READS IS OF BULK AT MOST 1048576: true; the input reads as it did. -/
def fnExactOutTextUptoRow : OpenClaim := { program := "yteapbiiffcchbaadoor", sum := "dc2fa1172e079960631c804811e37394e8a10bd0a11573398181e6d81710c109", func := "loop.example/g00677/laws.FnExactOutText", spec := "fnExactOutText", inPlace := ["internal/abi.NoEscape", "internal/bytealg.MakeNoZero"], named := ["internal/strconv.uint64pow10", "math/bits.deBruijn32tab", "math/bits.deBruijn64tab"], apart := false, laid := [("math/bits.deBruijn32tab", laid_math_bits_deBruijn32tab), ("math/bits.deBruijn64tab", laid_math_bits_deBruijn64tab), ("internal/strconv.uint64pow10", laid_internal_strconv_uint64pow10)], narrowed := true }
def FnExactOutTextUptoSaid : Prop := fnExactOutTextUptoRow.holds Tryd.pinned (OpenSpec.upto fnExactOutTextSpec)

/-- 'laws.FnExactRopeEdit', WHERE WHAT IT READS IS OF BULK AT MOST 1048576: true; the input reads as it did. -/
def fnExactRopeEditUptoRow : OpenClaim := { program := "yteapbiiffcchbaadoor", sum := "dc2fa1172e079960631c804811e37394e8a10bd0a11573398181e6d81710c109", func := "loop.example/g00677/laws.FnExactRopeEdit", spec := "fnExactRopeEdit", named := ["unicode/utf8.first", "unicode/utf8.acceptRanges"], apart := false, laid := [("unicode/utf8.acceptRanges", laid_unicode_utf8_acceptRanges), ("unicode/utf8.first", laid_unicode_utf8_first)], narrowed := true }
def FnExactRopeEditUptoSaid : Prop := fnExactRopeEditUptoRow.holds Tryd.pinned (OpenSpec.upto fnExactRopeEditSpec)

/-- 'laws.FnExactRopeSplit', WHERE WHAT IT READS IS OF BULK AT MOST 1048576: true; the input reads as it did. -/
def fnExactRopeSplitUptoRow : OpenClaim := { program := "yteapbiiffcchbaadoor", sum := "dc2fa1172e079960631c804811e37394e8a10bd0a11573398181e6d81710c109", func := "loop.example/g00677/laws.FnExactRopeSplit", spec := "fnExactRopeSplit", named := ["unicode/utf8.first", "unicode/utf8.acceptRanges"], apart := false, laid := [("unicode/utf8.acceptRanges", laid_unicode_utf8_acceptRanges), ("unicode/utf8.first", laid_unicode_utf8_first)], narrowed := true }
def FnExactRopeSplitUptoSaid : Prop := fnExactRopeSplitUptoRow.holds Tryd.pinned (OpenSpec.upto fnExactRopeSplitSpec)

/-- 'laws.FnRopeSplit', WHERE WHAT IT READS IS OF BULK AT MOST 1048576: true; the input reads as it did. -/
def fnRopeSplitUptoRow : OpenClaim := { program := "yteapbiiffcchbaadoor", sum := "dc2fa1172e079960631c804811e37394e8a10bd0a11573398181e6d81710c109", func := "loop.example/g00677/laws.FnRopeSplit", spec := "fnRopeSplit", inPlace := ["internal/bytealg.Count", "internal/bytealg.IndexByte", "internal/bytealg.Index"], named := ["unicode/utf8.first", "unicode/utf8.acceptRanges", "internal/bytealg.MaxLen"], apart := false, laid := [("unicode/utf8.acceptRanges", laid_unicode_utf8_acceptRanges), ("unicode/utf8.first", laid_unicode_utf8_first)], narrowed := true }
def FnRopeSplitUptoSaid : Prop := fnRopeSplitUptoRow.holds Tryd.pinned (OpenSpec.upto fnRopeSplitSpec)

/-- 'laws.FnRopeText', WHERE WHAT IT READS IS OF BULK AT MOST 1048576: true; the input reads as it did. -/
def fnRopeTextUptoRow : OpenClaim := { program := "yteapbiiffcchbaadoor", sum := "dc2fa1172e079960631c804811e37394e8a10bd0a11573398181e6d81710c109", func := "loop.example/g00677/laws.FnRopeText", spec := "fnRopeText", inPlace := ["internal/bytealg.Count", "internal/bytealg.IndexByte", "internal/bytealg.Index"], named := ["unicode/utf8.first", "unicode/utf8.acceptRanges", "internal/bytealg.MaxLen"], apart := false, laid := [("unicode/utf8.acceptRanges", laid_unicode_utf8_acceptRanges), ("unicode/utf8.first", laid_unicode_utf8_first)], narrowed := true }
def FnRopeTextUptoSaid : Prop := fnRopeTextUptoRow.holds Tryd.pinned (OpenSpec.upto fnRopeTextSpec)

end Rows
end Go.Proofs.YteapbiiffcchbaaDoor
