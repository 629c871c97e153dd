/-
  NARROWER THAN 'FOR EVERY INPUT', by the rows' own cells (each row's printed sentence says how): FnExactPrint: laid · FnExactPrintPart: laid · FnExactClosed: laid · FnExactVisible: laid · FnExactFreeNames: laid · FnExactAlphaSame: laid · FnExactCanon: laid.
  DERIVED. THE GIVEN ROWS OF THIS SEAT. 7 by the template 'for every input the law returns true; each argument reads behind the call as it read before'; 0 by the template 'total and deterministic' (their statements: YtmilegjmiiccdaaDoorTotals.lean).
  GIVEN WITH THE SEED: the statements are not yours to turn. If you find one false, say at which input.
  Laid BY PROGRAM, IN A SANDBOX (cutbox-rows.mjs): the forced cells as the released guide's own fill.sh prints them over the translation baa9acecccc36e8c… (all of the seat's roots in one cut). By AI agents, Wed Nov 11 2026. No macro, syntax, notation, axiom, sorry.
-/
import Derived.Test.YtmilegjmiiccdaaDoorChecked
import GoSem.PinnedTables
import GoSem.Claim
import GoSem.ClaimJoined
import GoSem.ClaimMapViews
import Derived.JoinedTies
import Derived.KernelRfl
namespace Go.Proofs.YtmilegjmiiccdaaDoor
/- THE CELL 'sum', in the pinned program and in every row, IS THE sha256 OF THE DUMP (.gsa) THAT YtmilegjmiiccdaaDoorProg.lean LOADS. Nothing in Lean hashes anything: it is a label: what it is worth is what the hold of that sum in a sandbox is worth. -/
noncomputable def Tryd.pinned : Pinned := { name := "ytmilegjmiiccdaadoor", sum := "baa9acecccc36e8c4ca426ef7fe36c1b0cbc8a9aec8dda9d20006378826088d5", checked := Tryd.checked }
namespace Rows
def none {H : Type} : Left H := { results := [], args := [] }

/- WHAT THE LISTED PACKAGE-LEVEL VARIABLES READ AS WHEN THE CALL BEGINS. Each datum BY PROGRAM (the guide's laid-datum.mjs) off the statement by which the dump's own 'gosem.cut.vars' lays the variable. In a bare row this is a premise. The card (YtmilegjmiiccdaaDoorCards.lean) ties it to the program's text. -/
def laid_math_bits_deBruijn32tab {H : Type} : DataW H := .agg [.lit (.int .u8 0), .lit (.int .u8 1), .lit (.int .u8 28), .lit (.int .u8 2), .lit (.int .u8 29), .lit (.int .u8 14), .lit (.int .u8 24), .lit (.int .u8 3), .lit (.int .u8 30), .lit (.int .u8 22), .lit (.int .u8 20), .lit (.int .u8 15), .lit (.int .u8 25), .lit (.int .u8 17), .lit (.int .u8 4), .lit (.int .u8 8), .lit (.int .u8 31), .lit (.int .u8 27), .lit (.int .u8 13), .lit (.int .u8 23), .lit (.int .u8 21), .lit (.int .u8 19), .lit (.int .u8 16), .lit (.int .u8 7), .lit (.int .u8 26), .lit (.int .u8 12), .lit (.int .u8 18), .lit (.int .u8 6), .lit (.int .u8 11), .lit (.int .u8 5), .lit (.int .u8 10), .lit (.int .u8 9)]
def laid_math_bits_deBruijn64tab {H : Type} : DataW H := .agg [.lit (.int .u8 0), .lit (.int .u8 1), .lit (.int .u8 56), .lit (.int .u8 2), .lit (.int .u8 57), .lit (.int .u8 49), .lit (.int .u8 28), .lit (.int .u8 3), .lit (.int .u8 61), .lit (.int .u8 58), .lit (.int .u8 42), .lit (.int .u8 50), .lit (.int .u8 38), .lit (.int .u8 29), .lit (.int .u8 17), .lit (.int .u8 4), .lit (.int .u8 62), .lit (.int .u8 47), .lit (.int .u8 59), .lit (.int .u8 36), .lit (.int .u8 45), .lit (.int .u8 43), .lit (.int .u8 51), .lit (.int .u8 22), .lit (.int .u8 53), .lit (.int .u8 39), .lit (.int .u8 33), .lit (.int .u8 30), .lit (.int .u8 24), .lit (.int .u8 18), .lit (.int .u8 12), .lit (.int .u8 5), .lit (.int .u8 63), .lit (.int .u8 55), .lit (.int .u8 48), .lit (.int .u8 27), .lit (.int .u8 60), .lit (.int .u8 41), .lit (.int .u8 37), .lit (.int .u8 16), .lit (.int .u8 46), .lit (.int .u8 35), .lit (.int .u8 44), .lit (.int .u8 21), .lit (.int .u8 52), .lit (.int .u8 32), .lit (.int .u8 23), .lit (.int .u8 11), .lit (.int .u8 54), .lit (.int .u8 26), .lit (.int .u8 40), .lit (.int .u8 15), .lit (.int .u8 34), .lit (.int .u8 20), .lit (.int .u8 31), .lit (.int .u8 10), .lit (.int .u8 25), .lit (.int .u8 14), .lit (.int .u8 19), .lit (.int .u8 9), .lit (.int .u8 13), .lit (.int .u8 8), .lit (.int .u8 7), .lit (.int .u8 6)]
def laid_internal_strconv_uint64pow10 {H : Type} : DataW H := .agg [.lit (.int .u64 1), .lit (.int .u64 10), .lit (.int .u64 100), .lit (.int .u64 1000), .lit (.int .u64 10000), .lit (.int .u64 100000), .lit (.int .u64 1000000), .lit (.int .u64 10000000), .lit (.int .u64 100000000), .lit (.int .u64 1000000000), .lit (.int .u64 10000000000), .lit (.int .u64 100000000000), .lit (.int .u64 1000000000000), .lit (.int .u64 10000000000000), .lit (.int .u64 100000000000000), .lit (.int .u64 1000000000000000), .lit (.int .u64 10000000000000000), .lit (.int .u64 100000000000000000), .lit (.int .u64 1000000000000000000), .lit (.int .u64 10000000000000000000)]
def laid_unicode_utf8_acceptRanges {H : Type} : DataW H := .agg [.agg [.lit (.int .u8 128), .lit (.int .u8 191)], .agg [.lit (.int .u8 160), .lit (.int .u8 191)], .agg [.lit (.int .u8 128), .lit (.int .u8 159)], .agg [.lit (.int .u8 144), .lit (.int .u8 191)], .agg [.lit (.int .u8 128), .lit (.int .u8 143)], .agg [.lit (.int .u8 0), .lit (.int .u8 0)], .agg [.lit (.int .u8 0), .lit (.int .u8 0)], .agg [.lit (.int .u8 0), .lit (.int .u8 0)], .agg [.lit (.int .u8 0), .lit (.int .u8 0)], .agg [.lit (.int .u8 0), .lit (.int .u8 0)], .agg [.lit (.int .u8 0), .lit (.int .u8 0)], .agg [.lit (.int .u8 0), .lit (.int .u8 0)], .agg [.lit (.int .u8 0), .lit (.int .u8 0)], .agg [.lit (.int .u8 0), .lit (.int .u8 0)], .agg [.lit (.int .u8 0), .lit (.int .u8 0)], .agg [.lit (.int .u8 0), .lit (.int .u8 0)]]
/-- One of Go's own tables, pinned by name: the form's constant. -/
def laid_unicode_utf8_first : DataW Unit := Go.Pinned.utf8First

/-- 'laws.FnExactPrint': WHATEVER THE INPUT: true; the input reads as it did. -/
def fnExactPrintSpec : ChangeSpec := { name := "fnExactPrint", fn := fun _ => fun
  | [d] => { results := [.lit (.bool true)], args := [d] }
  | _ => none }
def fnExactPrintRow : OpenClaim := { program := "ytmilegjmiiccdaadoor", sum := "baa9acecccc36e8c4ca426ef7fe36c1b0cbc8a9aec8dda9d20006378826088d5", func := "loop.example/g01292/laws.FnExactPrint", spec := "fnExactPrint", inPlace := ["internal/bytealg.CountString", "internal/bytealg.IndexByteString", "internal/bytealg.IndexString", "internal/abi.NoEscape", "internal/bytealg.MakeNoZero"], recurses := true, named := ["unicode/utf8.first", "unicode/utf8.acceptRanges", "internal/bytealg.MaxLen", "internal/strconv.uint64pow10", "math/bits.deBruijn32tab", "math/bits.deBruijn64tab"], apart := false, laid := [("math/bits.deBruijn32tab", laid_math_bits_deBruijn32tab), ("math/bits.deBruijn64tab", laid_math_bits_deBruijn64tab), ("internal/strconv.uint64pow10", laid_internal_strconv_uint64pow10), ("unicode/utf8.acceptRanges", laid_unicode_utf8_acceptRanges), ("unicode/utf8.first", laid_unicode_utf8_first)] }
def FnExactPrintSaid : Prop := fnExactPrintRow.holds Tryd.pinned (OpenSpec.ofChange fnExactPrintSpec)

/-- ITS FALSE NEIGHBOUR: 'it returns false'. Refute it at one input. -/
def fnExactPrintWrong : ChangeSpec := { name := "fnExactPrint", fn := fun _ => fun
  | [d] => { results := [.lit (.bool false)], args := [d] }
  | _ => none }
def FnExactPrintWrongFalsely : Prop := fnExactPrintRow.holds Tryd.pinned (OpenSpec.ofChange fnExactPrintWrong)

/-- 'laws.FnExactPrintPart': WHATEVER THE INPUT: true; the input reads as it did. -/
def fnExactPrintPartSpec : ChangeSpec := { name := "fnExactPrintPart", fn := fun _ => fun
  | [d1, d2] => { results := [.lit (.bool true)], args := [d1, d2] }
  | _ => none }
def fnExactPrintPartRow : OpenClaim := { program := "ytmilegjmiiccdaadoor", sum := "baa9acecccc36e8c4ca426ef7fe36c1b0cbc8a9aec8dda9d20006378826088d5", func := "loop.example/g01292/laws.FnExactPrintPart", spec := "fnExactPrintPart", inPlace := ["internal/bytealg.CountString", "internal/bytealg.IndexByteString", "internal/bytealg.IndexString", "internal/abi.NoEscape", "internal/bytealg.MakeNoZero"], recurses := true, named := ["unicode/utf8.first", "unicode/utf8.acceptRanges", "internal/bytealg.MaxLen", "internal/strconv.uint64pow10", "math/bits.deBruijn32tab", "math/bits.deBruijn64tab"], apart := false, laid := [("math/bits.deBruijn32tab", laid_math_bits_deBruijn32tab), ("math/bits.deBruijn64tab", laid_math_bits_deBruijn64tab), ("internal/strconv.uint64pow10", laid_internal_strconv_uint64pow10), ("unicode/utf8.acceptRanges", laid_unicode_utf8_acceptRanges), ("unicode/utf8.first", laid_unicode_utf8_first)] }
def FnExactPrintPartSaid : Prop := fnExactPrintPartRow.holds Tryd.pinned (OpenSpec.ofChange fnExactPrintPartSpec)

/-- ITS FALSE NEIGHBOUR: 'it returns false'. Refute it at one input. -/
def fnExactPrintPartWrong : ChangeSpec := { name := "fnExactPrintPart", fn := fun _ => fun
  | [d1, d2] => { results := [.lit (.bool false)], args := [d1, d2] }
  | _ => none }
def FnExactPrintPartWrongFalsely : Prop := fnExactPrintPartRow.holds Tryd.pinned (OpenSpec.ofChange fnExactPrintPartWrong)

/-- 'laws.FnExactClosed': WHATEVER THE INPUT: true; the input reads as it did. -/
def fnExactClosedSpec : ChangeSpec := { name := "fnExactClosed", fn := fun _ => fun
  | [d] => { results := [.lit (.bool true)], args := [d] }
  | _ => none }
def fnExactClosedRow : OpenClaim := { program := "ytmilegjmiiccdaadoor", sum := "baa9acecccc36e8c4ca426ef7fe36c1b0cbc8a9aec8dda9d20006378826088d5", func := "loop.example/g01292/laws.FnExactClosed", spec := "fnExactClosed", inPlace := ["internal/bytealg.CountString", "internal/bytealg.IndexByteString", "internal/bytealg.IndexString"], recurses := true, named := ["unicode/utf8.first", "unicode/utf8.acceptRanges", "internal/bytealg.MaxLen"], apart := false, laid := [("unicode/utf8.acceptRanges", laid_unicode_utf8_acceptRanges), ("unicode/utf8.first", laid_unicode_utf8_first)] }
def FnExactClosedSaid : Prop := fnExactClosedRow.holds Tryd.pinned (OpenSpec.ofChange fnExactClosedSpec)

/-- ITS FALSE NEIGHBOUR: 'it returns false'. Refute it at one input. -/
def fnExactClosedWrong : ChangeSpec := { name := "fnExactClosed", fn := fun _ => fun
  | [d] => { results := [.lit (.bool false)], args := [d] }
  | _ => none }
def FnExactClosedWrongFalsely : Prop := fnExactClosedRow.holds Tryd.pinned (OpenSpec.ofChange fnExactClosedWrong)

/-- 'laws.FnExactVisible': WHATEVER THE INPUT: true; the input reads as it did. -/
def fnExactVisibleSpec : ChangeSpec := { name := "fnExactVisible", fn := fun _ => fun
  | [d1, d2] => { results := [.lit (.bool true)], args := [d1, d2] }
  | _ => none }
def fnExactVisibleRow : OpenClaim := { program := "ytmilegjmiiccdaadoor", sum := "baa9acecccc36e8c4ca426ef7fe36c1b0cbc8a9aec8dda9d20006378826088d5", func := "loop.example/g01292/laws.FnExactVisible", spec := "fnExactVisible", inPlace := ["internal/bytealg.CountString", "internal/bytealg.IndexByteString", "internal/bytealg.IndexString"], recurses := true, named := ["unicode/utf8.first", "unicode/utf8.acceptRanges", "internal/bytealg.MaxLen"], apart := false, laid := [("unicode/utf8.acceptRanges", laid_unicode_utf8_acceptRanges), ("unicode/utf8.first", laid_unicode_utf8_first)] }
def FnExactVisibleSaid : Prop := fnExactVisibleRow.holds Tryd.pinned (OpenSpec.ofChange fnExactVisibleSpec)

/-- ITS FALSE NEIGHBOUR: 'it returns false'. Refute it at one input. -/
def fnExactVisibleWrong : ChangeSpec := { name := "fnExactVisible", fn := fun _ => fun
  | [d1, d2] => { results := [.lit (.bool false)], args := [d1, d2] }
  | _ => none }
def FnExactVisibleWrongFalsely : Prop := fnExactVisibleRow.holds Tryd.pinned (OpenSpec.ofChange fnExactVisibleWrong)

/-- 'laws.FnExactFreeNames': WHATEVER THE INPUT: true; the input reads as it did. -/
def fnExactFreeNamesSpec : ChangeSpec := { name := "fnExactFreeNames", fn := fun _ => fun
  | [d] => { results := [.lit (.bool true)], args := [d] }
  | _ => none }
def fnExactFreeNamesRow : OpenClaim := { program := "ytmilegjmiiccdaadoor", sum := "baa9acecccc36e8c4ca426ef7fe36c1b0cbc8a9aec8dda9d20006378826088d5", func := "loop.example/g01292/laws.FnExactFreeNames", spec := "fnExactFreeNames", inPlace := ["internal/bytealg.CountString", "internal/bytealg.IndexByteString", "internal/bytealg.IndexString"], recurses := true, named := ["unicode/utf8.first", "unicode/utf8.acceptRanges", "internal/bytealg.MaxLen"], apart := false, laid := [("unicode/utf8.acceptRanges", laid_unicode_utf8_acceptRanges), ("unicode/utf8.first", laid_unicode_utf8_first)] }
def FnExactFreeNamesSaid : Prop := fnExactFreeNamesRow.holds Tryd.pinned (OpenSpec.ofChange fnExactFreeNamesSpec)

/-- ITS FALSE NEIGHBOUR: 'it returns false'. Refute it at one input. -/
def fnExactFreeNamesWrong : ChangeSpec := { name := "fnExactFreeNames", fn := fun _ => fun
  | [d] => { results := [.lit (.bool false)], args := [d] }
  | _ => none }
def FnExactFreeNamesWrongFalsely : Prop := fnExactFreeNamesRow.holds Tryd.pinned (OpenSpec.ofChange fnExactFreeNamesWrong)

/-- 'laws.FnExactAlphaSame': WHATEVER THE INPUT: true; the input reads as it did. -/
def fnExactAlphaSameSpec : ChangeSpec := { name := "fnExactAlphaSame", fn := fun _ => fun
  | [d1, d2] => { results := [.lit (.bool true)], args := [d1, d2] }
  | _ => none }
def fnExactAlphaSameRow : OpenClaim := { program := "ytmilegjmiiccdaadoor", sum := "baa9acecccc36e8c4ca426ef7fe36c1b0cbc8a9aec8dda9d20006378826088d5", func := "loop.example/g01292/laws.FnExactAlphaSame", spec := "fnExactAlphaSame", inPlace := ["internal/bytealg.CountString", "internal/bytealg.IndexByteString", "internal/bytealg.IndexString"], recurses := true, named := ["unicode/utf8.first", "unicode/utf8.acceptRanges", "internal/bytealg.MaxLen"], apart := false, laid := [("unicode/utf8.acceptRanges", laid_unicode_utf8_acceptRanges), ("unicode/utf8.first", laid_unicode_utf8_first)] }
def FnExactAlphaSameSaid : Prop := fnExactAlphaSameRow.holds Tryd.pinned (OpenSpec.ofChange fnExactAlphaSameSpec)

/-- ITS FALSE NEIGHBOUR: 'it returns false'. Refute it at one input. -/
def fnExactAlphaSameWrong : ChangeSpec := { name := "fnExactAlphaSame", fn := fun _ => fun
  | [d1, d2] => { results := [.lit (.bool false)], args := [d1, d2] }
  | _ => none }
def FnExactAlphaSameWrongFalsely : Prop := fnExactAlphaSameRow.holds Tryd.pinned (OpenSpec.ofChange fnExactAlphaSameWrong)

/-- 'laws.FnExactCanon': WHATEVER THE INPUT: true; the input reads as it did. -/
def fnExactCanonSpec : ChangeSpec := { name := "fnExactCanon", fn := fun _ => fun
  | [d] => { results := [.lit (.bool true)], args := [d] }
  | _ => none }
def fnExactCanonRow : OpenClaim := { program := "ytmilegjmiiccdaadoor", sum := "baa9acecccc36e8c4ca426ef7fe36c1b0cbc8a9aec8dda9d20006378826088d5", func := "loop.example/g01292/laws.FnExactCanon", spec := "fnExactCanon", inPlace := ["internal/bytealg.CountString", "internal/bytealg.IndexByteString", "internal/bytealg.IndexString"], recurses := true, named := ["unicode/utf8.first", "unicode/utf8.acceptRanges", "internal/bytealg.MaxLen"], apart := false, laid := [("unicode/utf8.acceptRanges", laid_unicode_utf8_acceptRanges), ("unicode/utf8.first", laid_unicode_utf8_first)] }
def FnExactCanonSaid : Prop := fnExactCanonRow.holds Tryd.pinned (OpenSpec.ofChange fnExactCanonSpec)

/-- ITS FALSE NEIGHBOUR: 'it returns false'. Refute it at one input. -/
def fnExactCanonWrong : ChangeSpec := { name := "fnExactCanon", fn := fun _ => fun
  | [d] => { results := [.lit (.bool false)], args := [d] }
  | _ => none }
def FnExactCanonWrongFalsely : Prop := fnExactCanonRow.holds Tryd.pinned (OpenSpec.ofChange fnExactCanonWrong)

/- THE SECOND FORM. 'bulk': how many values and letters a reading holds, each counted each time it is reached (what is shared counts as often as it is met; a slice's spare places count too). A statement '..UptoSaid' is the law's where the arguments, and the package variables that the reading takes, are together of bulk at most 1048576: NARROWER than '..Said'. Prove '..Said' where nothing that the law and all that it calls make is longer than what came in: it says more and counts as full. Else prove '..UptoSaid'. A law counts once. -/
mutual
def uptoBulk {H : Type} : DataW H → Nat
  | .lit (.string bytes) => bytes.length + 1
  | .lit _ => 1
  | .nil => 1
  | .ptr d => uptoBulk d + 1
  | .slice elems spare => uptoBulkAll elems + uptoBulkAll spare + 1
  | .agg parts => uptoBulkAll parts + 1
  | .iface _ d => uptoBulk d + 1
  | .map entries => uptoBulkEntries entries + 1
  | .held _ => 1
def uptoBulkAll {H : Type} : List (DataW H) → Nat
  | [] => 0
  | d :: r => uptoBulk d + uptoBulkAll r
def uptoBulkEntries {H : Type} : List (Lit × DataW H) → Nat
  | [] => 0
  | x :: r => uptoBulkEntry x + uptoBulkEntries r
def uptoBulkEntry {H : Type} : Lit × DataW H → Nat
  | (.string bytes, d) => bytes.length + uptoBulk d + 1
  | (_, d) => uptoBulk d + 1
 end
def uptoSmall : (H : Type) → List (DataW H) → Bool := fun _ ds => decide (uptoBulkAll ds ≤ 1048576)
def OpenSpec.upto (s : _root_.Go.ChangeSpec) : _root_.Go.OpenSpec := { _root_.Go.OpenSpec.ofChange s with cond := some uptoSmall }

/-- 'laws.FnExactPrint', WHERE WHAT IT READS IS OF BULK AT MOST 1048576: true; the input reads as it did. -/
def fnExactPrintUptoRow : OpenClaim := { program := "ytmilegjmiiccdaadoor", sum := "baa9acecccc36e8c4ca426ef7fe36c1b0cbc8a9aec8dda9d20006378826088d5", func := "loop.example/g01292/laws.FnExactPrint", spec := "fnExactPrint", inPlace := ["internal/bytealg.CountString", "internal/bytealg.IndexByteString", "internal/bytealg.IndexString", "internal/abi.NoEscape", "internal/bytealg.MakeNoZero"], recurses := true, named := ["unicode/utf8.first", "unicode/utf8.acceptRanges", "internal/bytealg.MaxLen", "internal/strconv.uint64pow10", "math/bits.deBruijn32tab", "math/bits.deBruijn64tab"], apart := false, laid := [("math/bits.deBruijn32tab", laid_math_bits_deBruijn32tab), ("math/bits.deBruijn64tab", laid_math_bits_deBruijn64tab), ("internal/strconv.uint64pow10", laid_internal_strconv_uint64pow10), ("unicode/utf8.acceptRanges", laid_unicode_utf8_acceptRanges), ("unicode/utf8.first", laid_unicode_utf8_first)], narrowed := true }
def FnExactPrintUptoSaid : Prop := fnExactPrintUptoRow.holds Tryd.pinned (OpenSpec.upto fnExactPrintSpec)

/-- 'laws.FnExactPrintPart', WHERE WHAT IT READS IS OF BULK AT MOST 1048576: true; the input reads as it did. -/
def fnExactPrintPartUptoRow : OpenClaim := { program := "ytmilegjmiiccdaadoor", sum := "baa9acecccc36e8c4ca426ef7fe36c1b0cbc8a9aec8dda9d20006378826088d5", func := "loop.example/g01292/laws.FnExactPrintPart", spec := "fnExactPrintPart", inPlace := ["internal/bytealg.CountString", "internal/bytealg.IndexByteString", "internal/bytealg.IndexString", "internal/abi.NoEscape", "internal/bytealg.MakeNoZero"], recurses := true, named := ["unicode/utf8.first", "unicode/utf8.acceptRanges", "internal/bytealg.MaxLen", "internal/strconv.uint64pow10", "math/bits.deBruijn32tab", "math/bits.deBruijn64tab"], apart := false, laid := [("math/bits.deBruijn32tab", laid_math_bits_deBruijn32tab), ("math/bits.deBruijn64tab", laid_math_bits_deBruijn64tab), ("internal/strconv.uint64pow10", laid_internal_strconv_uint64pow10), ("unicode/utf8.acceptRanges", laid_unicode_utf8_acceptRanges), ("unicode/utf8.first", laid_unicode_utf8_first)], narrowed := true }
def FnExactPrintPartUptoSaid : Prop := fnExactPrintPartUptoRow.holds Tryd.pinned (OpenSpec.upto fnExactPrintPartSpec)

/-- 'laws.FnExactClosed', WHERE WHAT IT READS IS OF BULK AT MOST 1048576: true; the input reads as it did. -/
def fnExactClosedUptoRow : OpenClaim := { program := "ytmilegjmiiccdaadoor", sum := "baa9acecccc36e8c4ca426ef7fe36c1b0cbc8a9aec8dda9d20006378826088d5", func := "loop.example/g01292/laws.FnExactClosed", spec := "fnExactClosed", inPlace := ["internal/bytealg.CountString", "internal/bytealg.IndexByteString", "internal/bytealg.IndexString"], recurses := true, named := ["unicode/utf8.first", "unicode/utf8.acceptRanges", "internal/bytealg.MaxLen"], apart := false, laid := [("unicode/utf8.acceptRanges", laid_unicode_utf8_acceptRanges), ("unicode/utf8.first", laid_unicode_utf8_first)], narrowed := true }
def FnExactClosedUptoSaid : Prop := fnExactClosedUptoRow.holds Tryd.pinned (OpenSpec.upto fnExactClosedSpec)

/-- 'laws.FnExactVisible', WHERE WHAT IT READS IS OF BULK AT MOST 1048576: true; the input reads as it did. -/
def fnExactVisibleUptoRow : OpenClaim := { program := "ytmilegjmiiccdaadoor", sum := "baa9acecccc36e8c4ca426ef7fe36c1b0cbc8a9aec8dda9d20006378826088d5", func := "loop.example/g01292/laws.FnExactVisible", spec := "fnExactVisible", inPlace := ["internal/bytealg.CountString", "internal/bytealg.IndexByteString", "internal/bytealg.IndexString"], recurses := true, named := ["unicode/utf8.first", "unicode/utf8.acceptRanges", "internal/bytealg.MaxLen"], apart := false, laid := [("unicode/utf8.acceptRanges", laid_unicode_utf8_acceptRanges), ("unicode/utf8.first", laid_unicode_utf8_first)], narrowed := true }
def FnExactVisibleUptoSaid : Prop := fnExactVisibleUptoRow.holds Tryd.pinned (OpenSpec.upto fnExactVisibleSpec)

/-- 'laws.FnExactFreeNames', WHERE WHAT IT READS IS OF BULK AT MOST 1048576: true; the input reads as it did. -/
def fnExactFreeNamesUptoRow : OpenClaim := { program := "ytmilegjmiiccdaadoor", sum := "baa9acecccc36e8c4ca426ef7fe36c1b0cbc8a9aec8dda9d20006378826088d5", func := "loop.example/g01292/laws.FnExactFreeNames", spec := "fnExactFreeNames", inPlace := ["internal/bytealg.CountString", "internal/bytealg.IndexByteString", "internal/bytealg.IndexString"], recurses := true, named := ["unicode/utf8.first", "unicode/utf8.acceptRanges", "internal/bytealg.MaxLen"], apart := false, laid := [("unicode/utf8.acceptRanges", laid_unicode_utf8_acceptRanges), ("unicode/utf8.first", laid_unicode_utf8_first)], narrowed := true }
def FnExactFreeNamesUptoSaid : Prop := fnExactFreeNamesUptoRow.holds Tryd.pinned (OpenSpec.upto fnExactFreeNamesSpec)

/-- 'laws.FnExactAlphaSame', WHERE WHAT IT READS IS OF BULK AT MOST 1048576: true; the input reads as it did. -/
def fnExactAlphaSameUptoRow : OpenClaim := { program := "ytmilegjmiiccdaadoor", sum := "baa9acecccc36e8c4ca426ef7fe36c1b0cbc8a9aec8dda9d20006378826088d5", func := "loop.example/g01292/laws.FnExactAlphaSame", spec := "fnExactAlphaSame", inPlace := ["internal/bytealg.CountString", "internal/bytealg.IndexByteString", "internal/bytealg.IndexString"], recurses := true, named := ["unicode/utf8.first", "unicode/utf8.acceptRanges", "internal/bytealg.MaxLen"], apart := false, laid := [("unicode/utf8.acceptRanges", laid_unicode_utf8_acceptRanges), ("unicode/utf8.first", laid_unicode_utf8_first)], narrowed := true }
def FnExactAlphaSameUptoSaid : Prop := fnExactAlphaSameUptoRow.holds Tryd.pinned (OpenSpec.upto fnExactAlphaSameSpec)

/-- 'laws.FnExactCanon', WHERE WHAT IT READS IS OF BULK AT MOST 1048576: true; the input reads as it did. -/
def fnExactCanonUptoRow : OpenClaim := { program := "ytmilegjmiiccdaadoor", sum := "baa9acecccc36e8c4ca426ef7fe36c1b0cbc8a9aec8dda9d20006378826088d5", func := "loop.example/g01292/laws.FnExactCanon", spec := "fnExactCanon", inPlace := ["internal/bytealg.CountString", "internal/bytealg.IndexByteString", "internal/bytealg.IndexString"], recurses := true, named := ["unicode/utf8.first", "unicode/utf8.acceptRanges", "internal/bytealg.MaxLen"], apart := false, laid := [("unicode/utf8.acceptRanges", laid_unicode_utf8_acceptRanges), ("unicode/utf8.first", laid_unicode_utf8_first)], narrowed := true }
def FnExactCanonUptoSaid : Prop := fnExactCanonUptoRow.holds Tryd.pinned (OpenSpec.upto fnExactCanonSpec)

end Rows
end Go.Proofs.YtmilegjmiiccdaaDoor
