/-
  NARROWER THAN 'FOR EVERY INPUT', by the rows' own cells (each row's printed sentence says how): FnExactOpText: laid · FnExactEntryText: laid · FnExactWantText: laid · FnExactStepText: laid · FnExactScriptText: laid · FnExactTextOp: laid · FnExactReportRead: laid · FnExactTextEntry: laid · FnExactTextWant: laid · FnExactTextStep: laid · FnStepWords: laid · FnExactTextScript: laid.
  DERIVED. THE GIVEN ROWS OF THIS SEAT. 12 by the template 'for every input the law returns true; each argument reads behind the call as it read before'; 0 by the template 'total and deterministic' (their statements: YtlhanpkfnhnegaaDoorTotals.lean).
  GIVEN WITH THE SEED: the statements are not yours to turn. If you find one false, say at which input.
  Laid BY PROGRAM, IN A SANDBOX (cutbox-rows.mjs): the forced cells as the released guide's own fill.sh prints them over the translation 9575637f9b48aaf6… (all of the seat's roots in one cut). By AI agents, Wed Nov 11 2026. No macro, syntax, notation, axiom, sorry.
-/
import Derived.Test.YtlhanpkfnhnegaaDoorChecked
import GoSem.PinnedTables
import GoSem.Claim
import GoSem.ClaimJoined
import GoSem.ClaimMapViews
import Derived.JoinedTies
import Derived.KernelRfl
namespace Go.Proofs.YtlhanpkfnhnegaaDoor
/- THE CELL 'sum', in the pinned program and in every row, IS THE sha256 OF THE DUMP (.gsa) THAT YtlhanpkfnhnegaaDoorProg.lean LOADS. Nothing in Lean hashes anything: it is a label: what it is worth is what the hold of that sum in a sandbox is worth. -/
noncomputable def Tryd.pinned : Pinned := { name := "ytlhanpkfnhnegaadoor", sum := "9575637f9b48aaf66513dc8a8a0090f86c047c9d1482bb22c91c75ca68b1a161", checked := Tryd.checked }
namespace Rows
def none {H : Type} : Left H := { results := [], args := [] }

/- WHAT THE LISTED PACKAGE-LEVEL VARIABLES READ AS WHEN THE CALL BEGINS. Each datum BY PROGRAM (the guide's laid-datum.mjs) off the statement by which the dump's own 'gosem.cut.vars' lays the variable. In a bare row this is a premise. The card (YtlhanpkfnhnegaaDoorCards.lean) ties it to the program's text. -/
def laid_math_bits_deBruijn32tab {H : Type} : DataW H := .agg [.lit (.int .u8 0), .lit (.int .u8 1), .lit (.int .u8 28), .lit (.int .u8 2), .lit (.int .u8 29), .lit (.int .u8 14), .lit (.int .u8 24), .lit (.int .u8 3), .lit (.int .u8 30), .lit (.int .u8 22), .lit (.int .u8 20), .lit (.int .u8 15), .lit (.int .u8 25), .lit (.int .u8 17), .lit (.int .u8 4), .lit (.int .u8 8), .lit (.int .u8 31), .lit (.int .u8 27), .lit (.int .u8 13), .lit (.int .u8 23), .lit (.int .u8 21), .lit (.int .u8 19), .lit (.int .u8 16), .lit (.int .u8 7), .lit (.int .u8 26), .lit (.int .u8 12), .lit (.int .u8 18), .lit (.int .u8 6), .lit (.int .u8 11), .lit (.int .u8 5), .lit (.int .u8 10), .lit (.int .u8 9)]
def laid_math_bits_deBruijn64tab {H : Type} : DataW H := .agg [.lit (.int .u8 0), .lit (.int .u8 1), .lit (.int .u8 56), .lit (.int .u8 2), .lit (.int .u8 57), .lit (.int .u8 49), .lit (.int .u8 28), .lit (.int .u8 3), .lit (.int .u8 61), .lit (.int .u8 58), .lit (.int .u8 42), .lit (.int .u8 50), .lit (.int .u8 38), .lit (.int .u8 29), .lit (.int .u8 17), .lit (.int .u8 4), .lit (.int .u8 62), .lit (.int .u8 47), .lit (.int .u8 59), .lit (.int .u8 36), .lit (.int .u8 45), .lit (.int .u8 43), .lit (.int .u8 51), .lit (.int .u8 22), .lit (.int .u8 53), .lit (.int .u8 39), .lit (.int .u8 33), .lit (.int .u8 30), .lit (.int .u8 24), .lit (.int .u8 18), .lit (.int .u8 12), .lit (.int .u8 5), .lit (.int .u8 63), .lit (.int .u8 55), .lit (.int .u8 48), .lit (.int .u8 27), .lit (.int .u8 60), .lit (.int .u8 41), .lit (.int .u8 37), .lit (.int .u8 16), .lit (.int .u8 46), .lit (.int .u8 35), .lit (.int .u8 44), .lit (.int .u8 21), .lit (.int .u8 52), .lit (.int .u8 32), .lit (.int .u8 23), .lit (.int .u8 11), .lit (.int .u8 54), .lit (.int .u8 26), .lit (.int .u8 40), .lit (.int .u8 15), .lit (.int .u8 34), .lit (.int .u8 20), .lit (.int .u8 31), .lit (.int .u8 10), .lit (.int .u8 25), .lit (.int .u8 14), .lit (.int .u8 19), .lit (.int .u8 9), .lit (.int .u8 13), .lit (.int .u8 8), .lit (.int .u8 7), .lit (.int .u8 6)]
def laid_internal_strconv_uint64pow10 {H : Type} : DataW H := .agg [.lit (.int .u64 1), .lit (.int .u64 10), .lit (.int .u64 100), .lit (.int .u64 1000), .lit (.int .u64 10000), .lit (.int .u64 100000), .lit (.int .u64 1000000), .lit (.int .u64 10000000), .lit (.int .u64 100000000), .lit (.int .u64 1000000000), .lit (.int .u64 10000000000), .lit (.int .u64 100000000000), .lit (.int .u64 1000000000000), .lit (.int .u64 10000000000000), .lit (.int .u64 100000000000000), .lit (.int .u64 1000000000000000), .lit (.int .u64 10000000000000000), .lit (.int .u64 100000000000000000), .lit (.int .u64 1000000000000000000), .lit (.int .u64 10000000000000000000)]
def laid_strconv_ErrRange {H : Type} : DataW H := .iface "*errors.errorString" (.ptr (.agg [.lit (.string [118, 97, 108, 117, 101, 32, 111, 117, 116, 32, 111, 102, 32, 114, 97, 110, 103, 101])]))
def laid_strconv_ErrSyntax {H : Type} : DataW H := .iface "*errors.errorString" (.ptr (.agg [.lit (.string [105, 110, 118, 97, 108, 105, 100, 32, 115, 121, 110, 116, 97, 120])]))
def laid_unicode_utf8_acceptRanges {H : Type} : DataW H := .agg [.agg [.lit (.int .u8 128), .lit (.int .u8 191)], .agg [.lit (.int .u8 160), .lit (.int .u8 191)], .agg [.lit (.int .u8 128), .lit (.int .u8 159)], .agg [.lit (.int .u8 144), .lit (.int .u8 191)], .agg [.lit (.int .u8 128), .lit (.int .u8 143)], .agg [.lit (.int .u8 0), .lit (.int .u8 0)], .agg [.lit (.int .u8 0), .lit (.int .u8 0)], .agg [.lit (.int .u8 0), .lit (.int .u8 0)], .agg [.lit (.int .u8 0), .lit (.int .u8 0)], .agg [.lit (.int .u8 0), .lit (.int .u8 0)], .agg [.lit (.int .u8 0), .lit (.int .u8 0)], .agg [.lit (.int .u8 0), .lit (.int .u8 0)], .agg [.lit (.int .u8 0), .lit (.int .u8 0)], .agg [.lit (.int .u8 0), .lit (.int .u8 0)], .agg [.lit (.int .u8 0), .lit (.int .u8 0)], .agg [.lit (.int .u8 0), .lit (.int .u8 0)]]
/-- One of Go's own tables, pinned by name: the form's constant. -/
def laid_unicode_utf8_first : DataW Unit := Go.Pinned.utf8First

/-- 'laws.FnExactOpText': WHATEVER THE INPUT: true; the input reads as it did. -/
def fnExactOpTextSpec : ChangeSpec := { name := "fnExactOpText", fn := fun _ => fun
  | [d] => { results := [.lit (.bool true)], args := [d] }
  | _ => none }
def fnExactOpTextRow : OpenClaim := { program := "ytlhanpkfnhnegaadoor", sum := "9575637f9b48aaf66513dc8a8a0090f86c047c9d1482bb22c91c75ca68b1a161", func := "loop.example/g00851/laws.FnExactOpText", spec := "fnExactOpText", inPlace := ["internal/abi.NoEscape"], named := ["internal/strconv.uint64pow10", "math/bits.deBruijn32tab", "math/bits.deBruijn64tab"], apart := false, laid := [("math/bits.deBruijn32tab", laid_math_bits_deBruijn32tab), ("math/bits.deBruijn64tab", laid_math_bits_deBruijn64tab), ("internal/strconv.uint64pow10", laid_internal_strconv_uint64pow10)] }
def FnExactOpTextSaid : Prop := fnExactOpTextRow.holds Tryd.pinned (OpenSpec.ofChange fnExactOpTextSpec)

/-- ITS FALSE NEIGHBOUR: 'it returns false'. Refute it at one input. -/
def fnExactOpTextWrong : ChangeSpec := { name := "fnExactOpText", fn := fun _ => fun
  | [d] => { results := [.lit (.bool false)], args := [d] }
  | _ => none }
def FnExactOpTextWrongFalsely : Prop := fnExactOpTextRow.holds Tryd.pinned (OpenSpec.ofChange fnExactOpTextWrong)

/-- 'laws.FnExactEntryText': WHATEVER THE INPUT: true; the input reads as it did. -/
def fnExactEntryTextSpec : ChangeSpec := { name := "fnExactEntryText", fn := fun _ => fun
  | [d] => { results := [.lit (.bool true)], args := [d] }
  | _ => none }
def fnExactEntryTextRow : OpenClaim := { program := "ytlhanpkfnhnegaadoor", sum := "9575637f9b48aaf66513dc8a8a0090f86c047c9d1482bb22c91c75ca68b1a161", func := "loop.example/g00851/laws.FnExactEntryText", spec := "fnExactEntryText", inPlace := ["internal/abi.NoEscape"], named := ["internal/strconv.uint64pow10", "math/bits.deBruijn32tab", "math/bits.deBruijn64tab"], apart := false, laid := [("math/bits.deBruijn32tab", laid_math_bits_deBruijn32tab), ("math/bits.deBruijn64tab", laid_math_bits_deBruijn64tab), ("internal/strconv.uint64pow10", laid_internal_strconv_uint64pow10)] }
def FnExactEntryTextSaid : Prop := fnExactEntryTextRow.holds Tryd.pinned (OpenSpec.ofChange fnExactEntryTextSpec)

/-- ITS FALSE NEIGHBOUR: 'it returns false'. Refute it at one input. -/
def fnExactEntryTextWrong : ChangeSpec := { name := "fnExactEntryText", fn := fun _ => fun
  | [d] => { results := [.lit (.bool false)], args := [d] }
  | _ => none }
def FnExactEntryTextWrongFalsely : Prop := fnExactEntryTextRow.holds Tryd.pinned (OpenSpec.ofChange fnExactEntryTextWrong)

/-- 'laws.FnExactWantText': WHATEVER THE INPUT: true; the input reads as it did. -/
def fnExactWantTextSpec : ChangeSpec := { name := "fnExactWantText", fn := fun _ => fun
  | [d] => { results := [.lit (.bool true)], args := [d] }
  | _ => none }
def fnExactWantTextRow : OpenClaim := { program := "ytlhanpkfnhnegaadoor", sum := "9575637f9b48aaf66513dc8a8a0090f86c047c9d1482bb22c91c75ca68b1a161", func := "loop.example/g00851/laws.FnExactWantText", spec := "fnExactWantText", inPlace := ["internal/abi.NoEscape"], named := ["internal/strconv.uint64pow10", "math/bits.deBruijn32tab", "math/bits.deBruijn64tab"], apart := false, laid := [("math/bits.deBruijn32tab", laid_math_bits_deBruijn32tab), ("math/bits.deBruijn64tab", laid_math_bits_deBruijn64tab), ("internal/strconv.uint64pow10", laid_internal_strconv_uint64pow10)] }
def FnExactWantTextSaid : Prop := fnExactWantTextRow.holds Tryd.pinned (OpenSpec.ofChange fnExactWantTextSpec)

/-- ITS FALSE NEIGHBOUR: 'it returns false'. Refute it at one input. -/
def fnExactWantTextWrong : ChangeSpec := { name := "fnExactWantText", fn := fun _ => fun
  | [d] => { results := [.lit (.bool false)], args := [d] }
  | _ => none }
def FnExactWantTextWrongFalsely : Prop := fnExactWantTextRow.holds Tryd.pinned (OpenSpec.ofChange fnExactWantTextWrong)

/-- 'laws.FnExactStepText': WHATEVER THE INPUT: true; the input reads as it did. -/
def fnExactStepTextSpec : ChangeSpec := { name := "fnExactStepText", fn := fun _ => fun
  | [d] => { results := [.lit (.bool true)], args := [d] }
  | _ => none }
def fnExactStepTextRow : OpenClaim := { program := "ytlhanpkfnhnegaadoor", sum := "9575637f9b48aaf66513dc8a8a0090f86c047c9d1482bb22c91c75ca68b1a161", func := "loop.example/g00851/laws.FnExactStepText", spec := "fnExactStepText", inPlace := ["internal/abi.NoEscape"], named := ["internal/strconv.uint64pow10", "math/bits.deBruijn32tab", "math/bits.deBruijn64tab"], apart := false, laid := [("math/bits.deBruijn32tab", laid_math_bits_deBruijn32tab), ("math/bits.deBruijn64tab", laid_math_bits_deBruijn64tab), ("internal/strconv.uint64pow10", laid_internal_strconv_uint64pow10)] }
def FnExactStepTextSaid : Prop := fnExactStepTextRow.holds Tryd.pinned (OpenSpec.ofChange fnExactStepTextSpec)

/-- ITS FALSE NEIGHBOUR: 'it returns false'. Refute it at one input. -/
def fnExactStepTextWrong : ChangeSpec := { name := "fnExactStepText", fn := fun _ => fun
  | [d] => { results := [.lit (.bool false)], args := [d] }
  | _ => none }
def FnExactStepTextWrongFalsely : Prop := fnExactStepTextRow.holds Tryd.pinned (OpenSpec.ofChange fnExactStepTextWrong)

/-- 'laws.FnExactScriptText': WHATEVER THE INPUT: true; the input reads as it did. -/
def fnExactScriptTextSpec : ChangeSpec := { name := "fnExactScriptText", fn := fun _ => fun
  | [d] => { results := [.lit (.bool true)], args := [d] }
  | _ => none }
def fnExactScriptTextRow : OpenClaim := { program := "ytlhanpkfnhnegaadoor", sum := "9575637f9b48aaf66513dc8a8a0090f86c047c9d1482bb22c91c75ca68b1a161", func := "loop.example/g00851/laws.FnExactScriptText", spec := "fnExactScriptText", inPlace := ["internal/abi.NoEscape"], named := ["internal/strconv.uint64pow10", "math/bits.deBruijn32tab", "math/bits.deBruijn64tab"], apart := false, laid := [("math/bits.deBruijn32tab", laid_math_bits_deBruijn32tab), ("math/bits.deBruijn64tab", laid_math_bits_deBruijn64tab), ("internal/strconv.uint64pow10", laid_internal_strconv_uint64pow10)] }
def FnExactScriptTextSaid : Prop := fnExactScriptTextRow.holds Tryd.pinned (OpenSpec.ofChange fnExactScriptTextSpec)

/-- ITS FALSE NEIGHBOUR: 'it returns false'. Refute it at one input. -/
def fnExactScriptTextWrong : ChangeSpec := { name := "fnExactScriptText", fn := fun _ => fun
  | [d] => { results := [.lit (.bool false)], args := [d] }
  | _ => none }
def FnExactScriptTextWrongFalsely : Prop := fnExactScriptTextRow.holds Tryd.pinned (OpenSpec.ofChange fnExactScriptTextWrong)

/-- 'laws.FnExactTextOp': WHATEVER THE INPUT: true; the input reads as it did. -/
def fnExactTextOpSpec : ChangeSpec := { name := "fnExactTextOp", fn := fun _ => fun
  | [d] => { results := [.lit (.bool true)], args := [d] }
  | _ => none }
def fnExactTextOpRow : OpenClaim := { program := "ytlhanpkfnhnegaadoor", sum := "9575637f9b48aaf66513dc8a8a0090f86c047c9d1482bb22c91c75ca68b1a161", func := "loop.example/g00851/laws.FnExactTextOp", spec := "fnExactTextOp", inPlace := ["internal/bytealg.IndexByteString", "internal/bytealg.IndexString"], unfollowed := true, recurses := true, named := ["internal/bytealg.MaxLen", "strconv.ErrSyntax", "strconv.ErrRange", "internal/strconv.uint64pow10", "math/bits.deBruijn32tab", "math/bits.deBruijn64tab"], apart := false, laid := [("math/bits.deBruijn32tab", laid_math_bits_deBruijn32tab), ("math/bits.deBruijn64tab", laid_math_bits_deBruijn64tab), ("internal/strconv.uint64pow10", laid_internal_strconv_uint64pow10), ("strconv.ErrRange", laid_strconv_ErrRange), ("strconv.ErrSyntax", laid_strconv_ErrSyntax)] }
def FnExactTextOpSaid : Prop := fnExactTextOpRow.holds Tryd.pinned (OpenSpec.ofChange fnExactTextOpSpec)

/-- ITS FALSE NEIGHBOUR: 'it returns false'. Refute it at one input. -/
def fnExactTextOpWrong : ChangeSpec := { name := "fnExactTextOp", fn := fun _ => fun
  | [d] => { results := [.lit (.bool false)], args := [d] }
  | _ => none }
def FnExactTextOpWrongFalsely : Prop := fnExactTextOpRow.holds Tryd.pinned (OpenSpec.ofChange fnExactTextOpWrong)

/-- 'laws.FnExactReportRead': WHATEVER THE INPUT: true; the input reads as it did. -/
def fnExactReportReadSpec : ChangeSpec := { name := "fnExactReportRead", fn := fun _ => fun
  | [d] => { results := [.lit (.bool true)], args := [d] }
  | _ => none }
def fnExactReportReadRow : OpenClaim := { program := "ytlhanpkfnhnegaadoor", sum := "9575637f9b48aaf66513dc8a8a0090f86c047c9d1482bb22c91c75ca68b1a161", func := "loop.example/g00851/laws.FnExactReportRead", spec := "fnExactReportRead", inPlace := ["internal/bytealg.CountString", "internal/bytealg.IndexByteString", "internal/bytealg.IndexString"], named := ["unicode/utf8.first", "unicode/utf8.acceptRanges", "internal/bytealg.MaxLen", "strconv.ErrSyntax", "strconv.ErrRange", "internal/strconv.uint64pow10", "math/bits.deBruijn32tab", "math/bits.deBruijn64tab"], apart := false, laid := [("math/bits.deBruijn32tab", laid_math_bits_deBruijn32tab), ("math/bits.deBruijn64tab", laid_math_bits_deBruijn64tab), ("internal/strconv.uint64pow10", laid_internal_strconv_uint64pow10), ("unicode/utf8.acceptRanges", laid_unicode_utf8_acceptRanges), ("strconv.ErrRange", laid_strconv_ErrRange), ("strconv.ErrSyntax", laid_strconv_ErrSyntax), ("unicode/utf8.first", laid_unicode_utf8_first)] }
def FnExactReportReadSaid : Prop := fnExactReportReadRow.holds Tryd.pinned (OpenSpec.ofChange fnExactReportReadSpec)

/-- ITS FALSE NEIGHBOUR: 'it returns false'. Refute it at one input. -/
def fnExactReportReadWrong : ChangeSpec := { name := "fnExactReportRead", fn := fun _ => fun
  | [d] => { results := [.lit (.bool false)], args := [d] }
  | _ => none }
def FnExactReportReadWrongFalsely : Prop := fnExactReportReadRow.holds Tryd.pinned (OpenSpec.ofChange fnExactReportReadWrong)

/-- 'laws.FnExactTextEntry': WHATEVER THE INPUT: true; the input reads as it did. -/
def fnExactTextEntrySpec : ChangeSpec := { name := "fnExactTextEntry", fn := fun _ => fun
  | [d] => { results := [.lit (.bool true)], args := [d] }
  | _ => none }
def fnExactTextEntryRow : OpenClaim := { program := "ytlhanpkfnhnegaadoor", sum := "9575637f9b48aaf66513dc8a8a0090f86c047c9d1482bb22c91c75ca68b1a161", func := "loop.example/g00851/laws.FnExactTextEntry", spec := "fnExactTextEntry", inPlace := ["internal/bytealg.IndexByteString", "internal/bytealg.IndexString"], unfollowed := true, recurses := true, named := ["internal/bytealg.MaxLen", "strconv.ErrSyntax", "strconv.ErrRange", "internal/strconv.uint64pow10", "math/bits.deBruijn32tab", "math/bits.deBruijn64tab"], apart := false, laid := [("math/bits.deBruijn32tab", laid_math_bits_deBruijn32tab), ("math/bits.deBruijn64tab", laid_math_bits_deBruijn64tab), ("internal/strconv.uint64pow10", laid_internal_strconv_uint64pow10), ("strconv.ErrRange", laid_strconv_ErrRange), ("strconv.ErrSyntax", laid_strconv_ErrSyntax)] }
def FnExactTextEntrySaid : Prop := fnExactTextEntryRow.holds Tryd.pinned (OpenSpec.ofChange fnExactTextEntrySpec)

/-- ITS FALSE NEIGHBOUR: 'it returns false'. Refute it at one input. -/
def fnExactTextEntryWrong : ChangeSpec := { name := "fnExactTextEntry", fn := fun _ => fun
  | [d] => { results := [.lit (.bool false)], args := [d] }
  | _ => none }
def FnExactTextEntryWrongFalsely : Prop := fnExactTextEntryRow.holds Tryd.pinned (OpenSpec.ofChange fnExactTextEntryWrong)

/-- 'laws.FnExactTextWant': WHATEVER THE INPUT: true; the input reads as it did. -/
def fnExactTextWantSpec : ChangeSpec := { name := "fnExactTextWant", fn := fun _ => fun
  | [d] => { results := [.lit (.bool true)], args := [d] }
  | _ => none }
def fnExactTextWantRow : OpenClaim := { program := "ytlhanpkfnhnegaadoor", sum := "9575637f9b48aaf66513dc8a8a0090f86c047c9d1482bb22c91c75ca68b1a161", func := "loop.example/g00851/laws.FnExactTextWant", spec := "fnExactTextWant", inPlace := ["internal/bytealg.IndexByteString", "internal/bytealg.IndexString"], unfollowed := true, recurses := true, named := ["internal/bytealg.MaxLen", "strconv.ErrSyntax", "strconv.ErrRange", "internal/strconv.uint64pow10", "math/bits.deBruijn32tab", "math/bits.deBruijn64tab"], apart := false, laid := [("math/bits.deBruijn32tab", laid_math_bits_deBruijn32tab), ("math/bits.deBruijn64tab", laid_math_bits_deBruijn64tab), ("internal/strconv.uint64pow10", laid_internal_strconv_uint64pow10), ("strconv.ErrRange", laid_strconv_ErrRange), ("strconv.ErrSyntax", laid_strconv_ErrSyntax)] }
def FnExactTextWantSaid : Prop := fnExactTextWantRow.holds Tryd.pinned (OpenSpec.ofChange fnExactTextWantSpec)

/-- ITS FALSE NEIGHBOUR: 'it returns false'. Refute it at one input. -/
def fnExactTextWantWrong : ChangeSpec := { name := "fnExactTextWant", fn := fun _ => fun
  | [d] => { results := [.lit (.bool false)], args := [d] }
  | _ => none }
def FnExactTextWantWrongFalsely : Prop := fnExactTextWantRow.holds Tryd.pinned (OpenSpec.ofChange fnExactTextWantWrong)

/-- 'laws.FnExactTextStep': WHATEVER THE INPUT: true; the input reads as it did. -/
def fnExactTextStepSpec : ChangeSpec := { name := "fnExactTextStep", fn := fun _ => fun
  | [d] => { results := [.lit (.bool true)], args := [d] }
  | _ => none }
def fnExactTextStepRow : OpenClaim := { program := "ytlhanpkfnhnegaadoor", sum := "9575637f9b48aaf66513dc8a8a0090f86c047c9d1482bb22c91c75ca68b1a161", func := "loop.example/g00851/laws.FnExactTextStep", spec := "fnExactTextStep", inPlace := ["internal/bytealg.IndexByteString", "internal/bytealg.IndexString"], unfollowed := true, recurses := true, named := ["internal/bytealg.MaxLen", "strconv.ErrSyntax", "strconv.ErrRange", "internal/strconv.uint64pow10", "math/bits.deBruijn32tab", "math/bits.deBruijn64tab"], apart := false, laid := [("math/bits.deBruijn32tab", laid_math_bits_deBruijn32tab), ("math/bits.deBruijn64tab", laid_math_bits_deBruijn64tab), ("internal/strconv.uint64pow10", laid_internal_strconv_uint64pow10), ("strconv.ErrRange", laid_strconv_ErrRange), ("strconv.ErrSyntax", laid_strconv_ErrSyntax)] }
def FnExactTextStepSaid : Prop := fnExactTextStepRow.holds Tryd.pinned (OpenSpec.ofChange fnExactTextStepSpec)

/-- ITS FALSE NEIGHBOUR: 'it returns false'. Refute it at one input. -/
def fnExactTextStepWrong : ChangeSpec := { name := "fnExactTextStep", fn := fun _ => fun
  | [d] => { results := [.lit (.bool false)], args := [d] }
  | _ => none }
def FnExactTextStepWrongFalsely : Prop := fnExactTextStepRow.holds Tryd.pinned (OpenSpec.ofChange fnExactTextStepWrong)

/-- 'laws.FnStepWords': WHATEVER THE INPUT: true; the input reads as it did. -/
def fnStepWordsSpec : ChangeSpec := { name := "fnStepWords", fn := fun _ => fun
  | [d] => { results := [.lit (.bool true)], args := [d] }
  | _ => none }
def fnStepWordsRow : OpenClaim := { program := "ytlhanpkfnhnegaadoor", sum := "9575637f9b48aaf66513dc8a8a0090f86c047c9d1482bb22c91c75ca68b1a161", func := "loop.example/g00851/laws.FnStepWords", spec := "fnStepWords", inPlace := ["internal/abi.NoEscape", "internal/bytealg.IndexByteString", "internal/bytealg.IndexString"], unfollowed := true, recurses := true, named := ["internal/strconv.uint64pow10", "math/bits.deBruijn32tab", "math/bits.deBruijn64tab", "internal/bytealg.MaxLen", "strconv.ErrSyntax", "strconv.ErrRange"], apart := false, laid := [("math/bits.deBruijn32tab", laid_math_bits_deBruijn32tab), ("math/bits.deBruijn64tab", laid_math_bits_deBruijn64tab), ("internal/strconv.uint64pow10", laid_internal_strconv_uint64pow10), ("strconv.ErrRange", laid_strconv_ErrRange), ("strconv.ErrSyntax", laid_strconv_ErrSyntax)] }
def FnStepWordsSaid : Prop := fnStepWordsRow.holds Tryd.pinned (OpenSpec.ofChange fnStepWordsSpec)

/-- ITS FALSE NEIGHBOUR: 'it returns false'. Refute it at one input. -/
def fnStepWordsWrong : ChangeSpec := { name := "fnStepWords", fn := fun _ => fun
  | [d] => { results := [.lit (.bool false)], args := [d] }
  | _ => none }
def FnStepWordsWrongFalsely : Prop := fnStepWordsRow.holds Tryd.pinned (OpenSpec.ofChange fnStepWordsWrong)

/-- 'laws.FnExactTextScript': WHATEVER THE INPUT: true; the input reads as it did. -/
def fnExactTextScriptSpec : ChangeSpec := { name := "fnExactTextScript", fn := fun _ => fun
  | [d] => { results := [.lit (.bool true)], args := [d] }
  | _ => none }
def fnExactTextScriptRow : OpenClaim := { program := "ytlhanpkfnhnegaadoor", sum := "9575637f9b48aaf66513dc8a8a0090f86c047c9d1482bb22c91c75ca68b1a161", func := "loop.example/g00851/laws.FnExactTextScript", spec := "fnExactTextScript", inPlace := ["internal/bytealg.IndexByteString", "internal/bytealg.IndexString"], unfollowed := true, recurses := true, named := ["internal/bytealg.MaxLen", "strconv.ErrSyntax", "strconv.ErrRange", "internal/strconv.uint64pow10", "math/bits.deBruijn32tab", "math/bits.deBruijn64tab"], apart := false, laid := [("math/bits.deBruijn32tab", laid_math_bits_deBruijn32tab), ("math/bits.deBruijn64tab", laid_math_bits_deBruijn64tab), ("internal/strconv.uint64pow10", laid_internal_strconv_uint64pow10), ("strconv.ErrRange", laid_strconv_ErrRange), ("strconv.ErrSyntax", laid_strconv_ErrSyntax)] }
def FnExactTextScriptSaid : Prop := fnExactTextScriptRow.holds Tryd.pinned (OpenSpec.ofChange fnExactTextScriptSpec)

/-- ITS FALSE NEIGHBOUR: 'it returns false'. Refute it at one input. -/
def fnExactTextScriptWrong : ChangeSpec := { name := "fnExactTextScript", fn := fun _ => fun
  | [d] => { results := [.lit (.bool false)], args := [d] }
  | _ => none }
def FnExactTextScriptWrongFalsely : Prop := fnExactTextScriptRow.holds Tryd.pinned (OpenSpec.ofChange fnExactTextScriptWrong)

/- THE SECOND FORM. 'bulk': how many values and letters a reading holds, each counted each time it is reached (what is shared counts as often as it is met; a slice's spare places count too). A statement '..UptoSaid' is the law's where the arguments, and the package variables that the reading takes, are together of bulk at most 1048576: NARROWER than '..Said'. Prove '..Said' where nothing that the law and all that it calls make is longer than what came in: it says more and counts as full. Else prove '..UptoSaid'. A law counts once. -/
mutual
def uptoBulk {H : Type} : DataW H → Nat
  | .lit (.string bytes) => bytes.length + 1
  | .lit _ => 1
  | .nil => 1
  | .ptr d => uptoBulk d + 1
  | .slice elems spare => uptoBulkAll elems + uptoBulkAll spare + 1
  | .agg parts => uptoBulkAll parts + 1
  | .iface _ d => uptoBulk d + 1
  | .map entries => uptoBulkEntries entries + 1
  | .held _ => 1
def uptoBulkAll {H : Type} : List (DataW H) → Nat
  | [] => 0
  | d :: r => uptoBulk d + uptoBulkAll r
def uptoBulkEntries {H : Type} : List (Lit × DataW H) → Nat
  | [] => 0
  | x :: r => uptoBulkEntry x + uptoBulkEntries r
def uptoBulkEntry {H : Type} : Lit × DataW H → Nat
  | (.string bytes, d) => bytes.length + uptoBulk d + 1
  | (_, d) => uptoBulk d + 1
 end
def uptoSmall : (H : Type) → List (DataW H) → Bool := fun _ ds => decide (uptoBulkAll ds ≤ 1048576)
def OpenSpec.upto (s : _root_.Go.ChangeSpec) : _root_.Go.OpenSpec := { _root_.Go.OpenSpec.ofChange s with cond := some uptoSmall }

/-- 'laws.FnExactOpText', WHERE WHAT IT READS IS OF BULK AT MOST 1048576: true; the input reads as it did. -/
def fnExactOpTextUptoRow : OpenClaim := { program := "ytlhanpkfnhnegaadoor", sum := "9575637f9b48aaf66513dc8a8a0090f86c047c9d1482bb22c91c75ca68b1a161", func := "loop.example/g00851/laws.FnExactOpText", spec := "fnExactOpText", inPlace := ["internal/abi.NoEscape"], named := ["internal/strconv.uint64pow10", "math/bits.deBruijn32tab", "math/bits.deBruijn64tab"], apart := false, laid := [("math/bits.deBruijn32tab", laid_math_bits_deBruijn32tab), ("math/bits.deBruijn64tab", laid_math_bits_deBruijn64tab), ("internal/strconv.uint64pow10", laid_internal_strconv_uint64pow10)], narrowed := true }
def FnExactOpTextUptoSaid : Prop := fnExactOpTextUptoRow.holds Tryd.pinned (OpenSpec.upto fnExactOpTextSpec)

/-- 'laws.FnExactEntryText', WHERE WHAT IT READS IS OF BULK AT MOST 1048576: true; the input reads as it did. -/
def fnExactEntryTextUptoRow : OpenClaim := { program := "ytlhanpkfnhnegaadoor", sum := "9575637f9b48aaf66513dc8a8a0090f86c047c9d1482bb22c91c75ca68b1a161", func := "loop.example/g00851/laws.FnExactEntryText", spec := "fnExactEntryText", inPlace := ["internal/abi.NoEscape"], named := ["internal/strconv.uint64pow10", "math/bits.deBruijn32tab", "math/bits.deBruijn64tab"], apart := false, laid := [("math/bits.deBruijn32tab", laid_math_bits_deBruijn32tab), ("math/bits.deBruijn64tab", laid_math_bits_deBruijn64tab), ("internal/strconv.uint64pow10", laid_internal_strconv_uint64pow10)], narrowed := true }
def FnExactEntryTextUptoSaid : Prop := fnExactEntryTextUptoRow.holds Tryd.pinned (OpenSpec.upto fnExactEntryTextSpec)

/-- 'laws.FnExactWantText', WHERE WHAT IT READS IS OF BULK AT MOST 1048576: true; the input reads as it did. -/
def fnExactWantTextUptoRow : OpenClaim := { program := "ytlhanpkfnhnegaadoor", sum := "9575637f9b48aaf66513dc8a8a0090f86c047c9d1482bb22c91c75ca68b1a161", func := "loop.example/g00851/laws.FnExactWantText", spec := "fnExactWantText", inPlace := ["internal/abi.NoEscape"], named := ["internal/strconv.uint64pow10", "math/bits.deBruijn32tab", "math/bits.deBruijn64tab"], apart := false, laid := [("math/bits.deBruijn32tab", laid_math_bits_deBruijn32tab), ("math/bits.deBruijn64tab", laid_math_bits_deBruijn64tab), ("internal/strconv.uint64pow10", laid_internal_strconv_uint64pow10)], narrowed := true }
def FnExactWantTextUptoSaid : Prop := fnExactWantTextUptoRow.holds Tryd.pinned (OpenSpec.upto fnExactWantTextSpec)

/-- 'laws.FnExactStepText', WHERE WHAT IT READS IS OF BULK AT MOST 1048576: true; the input reads as it did. -/
def fnExactStepTextUptoRow : OpenClaim := { program := "ytlhanpkfnhnegaadoor", sum := "9575637f9b48aaf66513dc8a8a0090f86c047c9d1482bb22c91c75ca68b1a161", func := "loop.example/g00851/laws.FnExactStepText", spec := "fnExactStepText", inPlace := ["internal/abi.NoEscape"], named := ["internal/strconv.uint64pow10", "math/bits.deBruijn32tab", "math/bits.deBruijn64tab"], apart := false, laid := [("math/bits.deBruijn32tab", laid_math_bits_deBruijn32tab), ("math/bits.deBruijn64tab", laid_math_bits_deBruijn64tab), ("internal/strconv.uint64pow10", laid_internal_strconv_uint64pow10)], narrowed := true }
def FnExactStepTextUptoSaid : Prop := fnExactStepTextUptoRow.holds Tryd.pinned (OpenSpec.upto fnExactStepTextSpec)

/-- 'laws.FnExactScriptText', WHERE WHAT IT READS IS OF BULK AT MOST 1048576: true; the input reads as it did. -/
def fnExactScriptTextUptoRow : OpenClaim := { program := "ytlhanpkfnhnegaadoor", sum := "9575637f9b48aaf66513dc8a8a0090f86c047c9d1482bb22c91c75ca68b1a161", func := "loop.example/g00851/laws.FnExactScriptText", spec := "fnExactScriptText", inPlace := ["internal/abi.NoEscape"], named := ["internal/strconv.uint64pow10", "math/bits.deBruijn32tab", "math/bits.deBruijn64tab"], apart := false, laid := [("math/bits.deBruijn32tab", laid_math_bits_deBruijn32tab), ("math/bits.deBruijn64tab", laid_math_bits_deBruijn64tab), ("internal/strconv.uint64pow10", laid_internal_strconv_uint64pow10)], narrowed := true }
def FnExactScriptTextUptoSaid : Prop := fnExactScriptTextUptoRow.holds Tryd.pinned (OpenSpec.upto fnExactScriptTextSpec)

/-- 'laws.FnExactTextOp', WHERE WHAT IT READS IS OF BULK AT MOST 1048576: true; the input reads as it did. -/
def fnExactTextOpUptoRow : OpenClaim := { program := "ytlhanpkfnhnegaadoor", sum := "9575637f9b48aaf66513dc8a8a0090f86c047c9d1482bb22c91c75ca68b1a161", func := "loop.example/g00851/laws.FnExactTextOp", spec := "fnExactTextOp", inPlace := ["internal/bytealg.IndexByteString", "internal/bytealg.IndexString"], unfollowed := true, recurses := true, named := ["internal/bytealg.MaxLen", "strconv.ErrSyntax", "strconv.ErrRange", "internal/strconv.uint64pow10", "math/bits.deBruijn32tab", "math/bits.deBruijn64tab"], apart := false, laid := [("math/bits.deBruijn32tab", laid_math_bits_deBruijn32tab), ("math/bits.deBruijn64tab", laid_math_bits_deBruijn64tab), ("internal/strconv.uint64pow10", laid_internal_strconv_uint64pow10), ("strconv.ErrRange", laid_strconv_ErrRange), ("strconv.ErrSyntax", laid_strconv_ErrSyntax)], narrowed := true }
def FnExactTextOpUptoSaid : Prop := fnExactTextOpUptoRow.holds Tryd.pinned (OpenSpec.upto fnExactTextOpSpec)

/-- 'laws.FnExactReportRead', WHERE WHAT IT READS IS OF BULK AT MOST 1048576: true; the input reads as it did. -/
def fnExactReportReadUptoRow : OpenClaim := { program := "ytlhanpkfnhnegaadoor", sum := "9575637f9b48aaf66513dc8a8a0090f86c047c9d1482bb22c91c75ca68b1a161", func := "loop.example/g00851/laws.FnExactReportRead", spec := "fnExactReportRead", inPlace := ["internal/bytealg.CountString", "internal/bytealg.IndexByteString", "internal/bytealg.IndexString"], named := ["unicode/utf8.first", "unicode/utf8.acceptRanges", "internal/bytealg.MaxLen", "strconv.ErrSyntax", "strconv.ErrRange", "internal/strconv.uint64pow10", "math/bits.deBruijn32tab", "math/bits.deBruijn64tab"], apart := false, laid := [("math/bits.deBruijn32tab", laid_math_bits_deBruijn32tab), ("math/bits.deBruijn64tab", laid_math_bits_deBruijn64tab), ("internal/strconv.uint64pow10", laid_internal_strconv_uint64pow10), ("unicode/utf8.acceptRanges", laid_unicode_utf8_acceptRanges), ("strconv.ErrRange", laid_strconv_ErrRange), ("strconv.ErrSyntax", laid_strconv_ErrSyntax), ("unicode/utf8.first", laid_unicode_utf8_first)], narrowed := true }
def FnExactReportReadUptoSaid : Prop := fnExactReportReadUptoRow.holds Tryd.pinned (OpenSpec.upto fnExactReportReadSpec)

/-- 'laws.FnExactTextEntry', WHERE WHAT IT READS IS OF BULK AT MOST 1048576: true; the input reads as it did. -/
def fnExactTextEntryUptoRow : OpenClaim := { program := "ytlhanpkfnhnegaadoor", sum := "9575637f9b48aaf66513dc8a8a0090f86c047c9d1482bb22c91c75ca68b1a161", func := "loop.example/g00851/laws.FnExactTextEntry", spec := "fnExactTextEntry", inPlace := ["internal/bytealg.IndexByteString", "internal/bytealg.IndexString"], unfollowed := true, recurses := true, named := ["internal/bytealg.MaxLen", "strconv.ErrSyntax", "strconv.ErrRange", "internal/strconv.uint64pow10", "math/bits.deBruijn32tab", "math/bits.deBruijn64tab"], apart := false, laid := [("math/bits.deBruijn32tab", laid_math_bits_deBruijn32tab), ("math/bits.deBruijn64tab", laid_math_bits_deBruijn64tab), ("internal/strconv.uint64pow10", laid_internal_strconv_uint64pow10), ("strconv.ErrRange", laid_strconv_ErrRange), ("strconv.ErrSyntax", laid_strconv_ErrSyntax)], narrowed := true }
def FnExactTextEntryUptoSaid : Prop := fnExactTextEntryUptoRow.holds Tryd.pinned (OpenSpec.upto fnExactTextEntrySpec)

/-- 'laws.FnExactTextWant', WHERE WHAT IT READS IS OF BULK AT MOST 1048576: true; the input reads as it did. -/
def fnExactTextWantUptoRow : OpenClaim := { program := "ytlhanpkfnhnegaadoor", sum := "9575637f9b48aaf66513dc8a8a0090f86c047c9d1482bb22c91c75ca68b1a161", func := "loop.example/g00851/laws.FnExactTextWant", spec := "fnExactTextWant", inPlace := ["internal/bytealg.IndexByteString", "internal/bytealg.IndexString"], unfollowed := true, recurses := true, named := ["internal/bytealg.MaxLen", "strconv.ErrSyntax", "strconv.ErrRange", "internal/strconv.uint64pow10", "math/bits.deBruijn32tab", "math/bits.deBruijn64tab"], apart := false, laid := [("math/bits.deBruijn32tab", laid_math_bits_deBruijn32tab), ("math/bits.deBruijn64tab", laid_math_bits_deBruijn64tab), ("internal/strconv.uint64pow10", laid_internal_strconv_uint64pow10), ("strconv.ErrRange", laid_strconv_ErrRange), ("strconv.ErrSyntax", laid_strconv_ErrSyntax)], narrowed := true }
def FnExactTextWantUptoSaid : Prop := fnExactTextWantUptoRow.holds Tryd.pinned (OpenSpec.upto fnExactTextWantSpec)

/-- 'laws.FnExactTextStep', WHERE WHAT IT READS IS OF BULK AT MOST 1048576: true; the input reads as it did. -/
def fnExactTextStepUptoRow : OpenClaim := { program := "ytlhanpkfnhnegaadoor", sum := "9575637f9b48aaf66513dc8a8a0090f86c047c9d1482bb22c91c75ca68b1a161", func := "loop.example/g00851/laws.FnExactTextStep", spec := "fnExactTextStep", inPlace := ["internal/bytealg.IndexByteString", "internal/bytealg.IndexString"], unfollowed := true, recurses := true, named := ["internal/bytealg.MaxLen", "strconv.ErrSyntax", "strconv.ErrRange", "internal/strconv.uint64pow10", "math/bits.deBruijn32tab", "math/bits.deBruijn64tab"], apart := false, laid := [("math/bits.deBruijn32tab", laid_math_bits_deBruijn32tab), ("math/bits.deBruijn64tab", laid_math_bits_deBruijn64tab), ("internal/strconv.uint64pow10", laid_internal_strconv_uint64pow10), ("strconv.ErrRange", laid_strconv_ErrRange), ("strconv.ErrSyntax", laid_strconv_ErrSyntax)], narrowed := true }
def FnExactTextStepUptoSaid : Prop := fnExactTextStepUptoRow.holds Tryd.pinned (OpenSpec.upto fnExactTextStepSpec)

/-- 'laws.FnStepWords', WHERE WHAT IT READS IS OF BULK AT MOST 1048576: true; the input reads as it did. -/
def fnStepWordsUptoRow : OpenClaim := { program := "ytlhanpkfnhnegaadoor", sum := "9575637f9b48aaf66513dc8a8a0090f86c047c9d1482bb22c91c75ca68b1a161", func := "loop.example/g00851/laws.FnStepWords", spec := "fnStepWords", inPlace := ["internal/abi.NoEscape", "internal/bytealg.IndexByteString", "internal/bytealg.IndexString"], unfollowed := true, recurses := true, named := ["internal/strconv.uint64pow10", "math/bits.deBruijn32tab", "math/bits.deBruijn64tab", "internal/bytealg.MaxLen", "strconv.ErrSyntax", "strconv.ErrRange"], apart := false, laid := [("math/bits.deBruijn32tab", laid_math_bits_deBruijn32tab), ("math/bits.deBruijn64tab", laid_math_bits_deBruijn64tab), ("internal/strconv.uint64pow10", laid_internal_strconv_uint64pow10), ("strconv.ErrRange", laid_strconv_ErrRange), ("strconv.ErrSyntax", laid_strconv_ErrSyntax)], narrowed := true }
def FnStepWordsUptoSaid : Prop := fnStepWordsUptoRow.holds Tryd.pinned (OpenSpec.upto fnStepWordsSpec)

/-- 'laws.FnExactTextScript', WHERE WHAT IT READS IS OF BULK AT MOST 1048576: true; the input reads as it did. -/
def fnExactTextScriptUptoRow : OpenClaim := { program := "ytlhanpkfnhnegaadoor", sum := "9575637f9b48aaf66513dc8a8a0090f86c047c9d1482bb22c91c75ca68b1a161", func := "loop.example/g00851/laws.FnExactTextScript", spec := "fnExactTextScript", inPlace := ["internal/bytealg.IndexByteString", "internal/bytealg.IndexString"], unfollowed := true, recurses := true, named := ["internal/bytealg.MaxLen", "strconv.ErrSyntax", "strconv.ErrRange", "internal/strconv.uint64pow10", "math/bits.deBruijn32tab", "math/bits.deBruijn64tab"], apart := false, laid := [("math/bits.deBruijn32tab", laid_math_bits_deBruijn32tab), ("math/bits.deBruijn64tab", laid_math_bits_deBruijn64tab), ("internal/strconv.uint64pow10", laid_internal_strconv_uint64pow10), ("strconv.ErrRange", laid_strconv_ErrRange), ("strconv.ErrSyntax", laid_strconv_ErrSyntax)], narrowed := true }
def FnExactTextScriptUptoSaid : Prop := fnExactTextScriptUptoRow.holds Tryd.pinned (OpenSpec.upto fnExactTextScriptSpec)

end Rows
end Go.Proofs.YtlhanpkfnhnegaaDoor
