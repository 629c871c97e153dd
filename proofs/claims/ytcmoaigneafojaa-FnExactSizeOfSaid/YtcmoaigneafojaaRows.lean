/-
  No cell of these rows narrows 'for every input' (looked for: loops, veiled, ifaces, maps, wideKeys, modest, calm, conditions, laid).
  DERIVED. THE GIVEN ROWS OF THIS SEAT. 8 by the template 'for every input the law returns true; each argument reads behind the call as it read before'; 0 by the template 'total and deterministic' (their statements: YtcmoaigneafojaaTotals.lean).
  GIVEN WITH THE SEED: the statements are not yours to turn. If you find one false, say at which input.
  Laid BY PROGRAM, IN A SANDBOX (cutbox-rows.mjs): the forced cells as the released guide's own fill.sh prints them over the translation 2a11ea22e06cf673… (all of the seat's roots in one cut). By AI agents, Wed Nov 11 2026. No macro, syntax, notation, axiom, sorry.
-/
import Derived.Test.YtcmoaigneafojaaChecked
import GoSem.Claim
import GoSem.ClaimJoined
import GoSem.ClaimMapViews
import Derived.JoinedTies
import Derived.KernelRfl
namespace Go.Proofs.Ytcmoaigneafojaa
/- THE CELL 'sum', in the pinned program and in every row, IS THE sha256 OF THE DUMP (.gsa) THAT YtcmoaigneafojaaProg.lean LOADS. Nothing in Lean hashes anything: it is a label: what it is worth is what the hold of that sum in a sandbox is worth. -/
noncomputable def Try.pinned : Pinned := { name := "ytcmoaigneafojaa", sum := "2a11ea22e06cf6739d41cf7a869484f420baeb0e6457fd3755b94df08da23561", checked := Try.checked }
namespace Rows
def none {H : Type} : Left H := { results := [], args := [] }

/-- 'laws.FnExactUnlex': WHATEVER THE INPUT: true; the input reads as it did. -/
def fnExactUnlexSpec : ChangeSpec := { name := "fnExactUnlex", fn := fun _ => fun
  | [d] => { results := [.lit (.bool true)], args := [d] }
  | _ => none }
def fnExactUnlexRow : OpenClaim := { program := "ytcmoaigneafojaa", sum := "2a11ea22e06cf6739d41cf7a869484f420baeb0e6457fd3755b94df08da23561", func := "loop.example/g01292/laws.FnExactUnlex", spec := "fnExactUnlex", inPlace := ["internal/abi.NoEscape"], apart := false }
def FnExactUnlexSaid : Prop := fnExactUnlexRow.holds Try.pinned (OpenSpec.ofChange fnExactUnlexSpec)

/-- ITS FALSE NEIGHBOUR: 'it returns false'. Refute it at one input. -/
def fnExactUnlexWrong : ChangeSpec := { name := "fnExactUnlex", fn := fun _ => fun
  | [d] => { results := [.lit (.bool false)], args := [d] }
  | _ => none }
def FnExactUnlexWrongFalsely : Prop := fnExactUnlexRow.holds Try.pinned (OpenSpec.ofChange fnExactUnlexWrong)

/-- 'laws.FnExactTableOk': WHATEVER THE INPUT: true; the input reads as it did. -/
def fnExactTableOkSpec : ChangeSpec := { name := "fnExactTableOk", fn := fun _ => fun
  | [d] => { results := [.lit (.bool true)], args := [d] }
  | _ => none }
def fnExactTableOkRow : OpenClaim := { program := "ytcmoaigneafojaa", sum := "2a11ea22e06cf6739d41cf7a869484f420baeb0e6457fd3755b94df08da23561", func := "loop.example/g01292/laws.FnExactTableOk", spec := "fnExactTableOk", apart := false }
def FnExactTableOkSaid : Prop := fnExactTableOkRow.holds Try.pinned (OpenSpec.ofChange fnExactTableOkSpec)

/-- ITS FALSE NEIGHBOUR: 'it returns false'. Refute it at one input. -/
def fnExactTableOkWrong : ChangeSpec := { name := "fnExactTableOk", fn := fun _ => fun
  | [d] => { results := [.lit (.bool false)], args := [d] }
  | _ => none }
def FnExactTableOkWrongFalsely : Prop := fnExactTableOkRow.holds Try.pinned (OpenSpec.ofChange fnExactTableOkWrong)

/-- 'laws.FnExactFunsOf': WHATEVER THE INPUT: true; the input reads as it did. -/
def fnExactFunsOfSpec : ChangeSpec := { name := "fnExactFunsOf", fn := fun _ => fun
  | [d] => { results := [.lit (.bool true)], args := [d] }
  | _ => none }
def fnExactFunsOfRow : OpenClaim := { program := "ytcmoaigneafojaa", sum := "2a11ea22e06cf6739d41cf7a869484f420baeb0e6457fd3755b94df08da23561", func := "loop.example/g01292/laws.FnExactFunsOf", spec := "fnExactFunsOf", unfollowed := true, recurses := true, apart := false }
def FnExactFunsOfSaid : Prop := fnExactFunsOfRow.holds Try.pinned (OpenSpec.ofChange fnExactFunsOfSpec)

/-- ITS FALSE NEIGHBOUR: 'it returns false'. Refute it at one input. -/
def fnExactFunsOfWrong : ChangeSpec := { name := "fnExactFunsOf", fn := fun _ => fun
  | [d] => { results := [.lit (.bool false)], args := [d] }
  | _ => none }
def FnExactFunsOfWrongFalsely : Prop := fnExactFunsOfRow.holds Try.pinned (OpenSpec.ofChange fnExactFunsOfWrong)

/-- 'laws.FnExactTagsOf': WHATEVER THE INPUT: true; the input reads as it did. -/
def fnExactTagsOfSpec : ChangeSpec := { name := "fnExactTagsOf", fn := fun _ => fun
  | [d1, d2] => { results := [.lit (.bool true)], args := [d1, d2] }
  | _ => none }
def fnExactTagsOfRow : OpenClaim := { program := "ytcmoaigneafojaa", sum := "2a11ea22e06cf6739d41cf7a869484f420baeb0e6457fd3755b94df08da23561", func := "loop.example/g01292/laws.FnExactTagsOf", spec := "fnExactTagsOf", unfollowed := true, recurses := true, apart := false }
def FnExactTagsOfSaid : Prop := fnExactTagsOfRow.holds Try.pinned (OpenSpec.ofChange fnExactTagsOfSpec)

/-- ITS FALSE NEIGHBOUR: 'it returns false'. Refute it at one input. -/
def fnExactTagsOfWrong : ChangeSpec := { name := "fnExactTagsOf", fn := fun _ => fun
  | [d1, d2] => { results := [.lit (.bool false)], args := [d1, d2] }
  | _ => none }
def FnExactTagsOfWrongFalsely : Prop := fnExactTagsOfRow.holds Try.pinned (OpenSpec.ofChange fnExactTagsOfWrong)

/-- 'laws.FnExactTouched': WHATEVER THE INPUT: true; the input reads as it did. -/
def fnExactTouchedSpec : ChangeSpec := { name := "fnExactTouched", fn := fun _ => fun
  | [d] => { results := [.lit (.bool true)], args := [d] }
  | _ => none }
def fnExactTouchedRow : OpenClaim := { program := "ytcmoaigneafojaa", sum := "2a11ea22e06cf6739d41cf7a869484f420baeb0e6457fd3755b94df08da23561", func := "loop.example/g01292/laws.FnExactTouched", spec := "fnExactTouched", unfollowed := true, recurses := true, apart := false }
def FnExactTouchedSaid : Prop := fnExactTouchedRow.holds Try.pinned (OpenSpec.ofChange fnExactTouchedSpec)

/-- ITS FALSE NEIGHBOUR: 'it returns false'. Refute it at one input. -/
def fnExactTouchedWrong : ChangeSpec := { name := "fnExactTouched", fn := fun _ => fun
  | [d] => { results := [.lit (.bool false)], args := [d] }
  | _ => none }
def FnExactTouchedWrongFalsely : Prop := fnExactTouchedRow.holds Try.pinned (OpenSpec.ofChange fnExactTouchedWrong)

/-- 'laws.FnExactSizeOf': WHATEVER THE INPUT: true; the input reads as it did. -/
def fnExactSizeOfSpec : ChangeSpec := { name := "fnExactSizeOf", fn := fun _ => fun
  | [d1, d2] => { results := [.lit (.bool true)], args := [d1, d2] }
  | _ => none }
def fnExactSizeOfRow : OpenClaim := { program := "ytcmoaigneafojaa", sum := "2a11ea22e06cf6739d41cf7a869484f420baeb0e6457fd3755b94df08da23561", func := "loop.example/g01292/laws.FnExactSizeOf", spec := "fnExactSizeOf", recurses := true, apart := false }
def FnExactSizeOfSaid : Prop := fnExactSizeOfRow.holds Try.pinned (OpenSpec.ofChange fnExactSizeOfSpec)

/-- ITS FALSE NEIGHBOUR: 'it returns false'. Refute it at one input. -/
def fnExactSizeOfWrong : ChangeSpec := { name := "fnExactSizeOf", fn := fun _ => fun
  | [d1, d2] => { results := [.lit (.bool false)], args := [d1, d2] }
  | _ => none }
def FnExactSizeOfWrongFalsely : Prop := fnExactSizeOfRow.holds Try.pinned (OpenSpec.ofChange fnExactSizeOfWrong)

/-- 'laws.FnExactValOk': WHATEVER THE INPUT: true; the input reads as it did. -/
def fnExactValOkSpec : ChangeSpec := { name := "fnExactValOk", fn := fun _ => fun
  | [d1, d2] => { results := [.lit (.bool true)], args := [d1, d2] }
  | _ => none }
def fnExactValOkRow : OpenClaim := { program := "ytcmoaigneafojaa", sum := "2a11ea22e06cf6739d41cf7a869484f420baeb0e6457fd3755b94df08da23561", func := "loop.example/g01292/laws.FnExactValOk", spec := "fnExactValOk", apart := false }
def FnExactValOkSaid : Prop := fnExactValOkRow.holds Try.pinned (OpenSpec.ofChange fnExactValOkSpec)

/-- ITS FALSE NEIGHBOUR: 'it returns false'. Refute it at one input. -/
def fnExactValOkWrong : ChangeSpec := { name := "fnExactValOk", fn := fun _ => fun
  | [d1, d2] => { results := [.lit (.bool false)], args := [d1, d2] }
  | _ => none }
def FnExactValOkWrongFalsely : Prop := fnExactValOkRow.holds Try.pinned (OpenSpec.ofChange fnExactValOkWrong)

/-- 'laws.FnExactHeapOk': WHATEVER THE INPUT: true; the input reads as it did. -/
def fnExactHeapOkSpec : ChangeSpec := { name := "fnExactHeapOk", fn := fun _ => fun
  | [d] => { results := [.lit (.bool true)], args := [d] }
  | _ => none }
def fnExactHeapOkRow : OpenClaim := { program := "ytcmoaigneafojaa", sum := "2a11ea22e06cf6739d41cf7a869484f420baeb0e6457fd3755b94df08da23561", func := "loop.example/g01292/laws.FnExactHeapOk", spec := "fnExactHeapOk", apart := false }
def FnExactHeapOkSaid : Prop := fnExactHeapOkRow.holds Try.pinned (OpenSpec.ofChange fnExactHeapOkSpec)

/-- ITS FALSE NEIGHBOUR: 'it returns false'. Refute it at one input. -/
def fnExactHeapOkWrong : ChangeSpec := { name := "fnExactHeapOk", fn := fun _ => fun
  | [d] => { results := [.lit (.bool false)], args := [d] }
  | _ => none }
def FnExactHeapOkWrongFalsely : Prop := fnExactHeapOkRow.holds Try.pinned (OpenSpec.ofChange fnExactHeapOkWrong)

/- THE SECOND FORM. 'bulk': how many values and letters a reading holds, each counted each time it is reached (what is shared counts as often as it is met; a slice's spare places count too). A statement '..UptoSaid' is the law's where the arguments, and the package variables that the reading takes, are together of bulk at most 1048576: NARROWER than '..Said'. Prove '..Said' where nothing that the law and all that it calls make is longer than what came in: it says more and counts as full. Else prove '..UptoSaid'. A law counts once. -/
mutual
def uptoBulk {H : Type} : DataW H → Nat
  | .lit (.string bytes) => bytes.length + 1
  | .lit _ => 1
  | .nil => 1
  | .ptr d => uptoBulk d + 1
  | .slice elems spare => uptoBulkAll elems + uptoBulkAll spare + 1
  | .agg parts => uptoBulkAll parts + 1
  | .iface _ d => uptoBulk d + 1
  | .map entries => uptoBulkEntries entries + 1
  | .held _ => 1
def uptoBulkAll {H : Type} : List (DataW H) → Nat
  | [] => 0
  | d :: r => uptoBulk d + uptoBulkAll r
def uptoBulkEntries {H : Type} : List (Lit × DataW H) → Nat
  | [] => 0
  | x :: r => uptoBulkEntry x + uptoBulkEntries r
def uptoBulkEntry {H : Type} : Lit × DataW H → Nat
  | (.string bytes, d) => bytes.length + uptoBulk d + 1
  | (_, d) => uptoBulk d + 1
 end
def uptoSmall : (H : Type) → List (DataW H) → Bool := fun _ ds => decide (uptoBulkAll ds ≤ 1048576)
def OpenSpec.upto (s : _root_.Go.ChangeSpec) : _root_.Go.OpenSpec := { _root_.Go.OpenSpec.ofChange s with cond := some uptoSmall }

/-- 'laws.FnExactUnlex', WHERE WHAT IT READS IS OF BULK AT MOST 1048576: true; the input reads as it did. -/
def fnExactUnlexUptoRow : OpenClaim := { program := "ytcmoaigneafojaa", sum := "2a11ea22e06cf6739d41cf7a869484f420baeb0e6457fd3755b94df08da23561", func := "loop.example/g01292/laws.FnExactUnlex", spec := "fnExactUnlex", inPlace := ["internal/abi.NoEscape"], apart := false, narrowed := true }
def FnExactUnlexUptoSaid : Prop := fnExactUnlexUptoRow.holds Try.pinned (OpenSpec.upto fnExactUnlexSpec)

/-- 'laws.FnExactTableOk', WHERE WHAT IT READS IS OF BULK AT MOST 1048576: true; the input reads as it did. -/
def fnExactTableOkUptoRow : OpenClaim := { program := "ytcmoaigneafojaa", sum := "2a11ea22e06cf6739d41cf7a869484f420baeb0e6457fd3755b94df08da23561", func := "loop.example/g01292/laws.FnExactTableOk", spec := "fnExactTableOk", apart := false, narrowed := true }
def FnExactTableOkUptoSaid : Prop := fnExactTableOkUptoRow.holds Try.pinned (OpenSpec.upto fnExactTableOkSpec)

/-- 'laws.FnExactFunsOf', WHERE WHAT IT READS IS OF BULK AT MOST 1048576: true; the input reads as it did. -/
def fnExactFunsOfUptoRow : OpenClaim := { program := "ytcmoaigneafojaa", sum := "2a11ea22e06cf6739d41cf7a869484f420baeb0e6457fd3755b94df08da23561", func := "loop.example/g01292/laws.FnExactFunsOf", spec := "fnExactFunsOf", unfollowed := true, recurses := true, apart := false, narrowed := true }
def FnExactFunsOfUptoSaid : Prop := fnExactFunsOfUptoRow.holds Try.pinned (OpenSpec.upto fnExactFunsOfSpec)

/-- 'laws.FnExactTagsOf', WHERE WHAT IT READS IS OF BULK AT MOST 1048576: true; the input reads as it did. -/
def fnExactTagsOfUptoRow : OpenClaim := { program := "ytcmoaigneafojaa", sum := "2a11ea22e06cf6739d41cf7a869484f420baeb0e6457fd3755b94df08da23561", func := "loop.example/g01292/laws.FnExactTagsOf", spec := "fnExactTagsOf", unfollowed := true, recurses := true, apart := false, narrowed := true }
def FnExactTagsOfUptoSaid : Prop := fnExactTagsOfUptoRow.holds Try.pinned (OpenSpec.upto fnExactTagsOfSpec)

/-- 'laws.FnExactTouched', WHERE WHAT IT READS IS OF BULK AT MOST 1048576: true; the input reads as it did. -/
def fnExactTouchedUptoRow : OpenClaim := { program := "ytcmoaigneafojaa", sum := "2a11ea22e06cf6739d41cf7a869484f420baeb0e6457fd3755b94df08da23561", func := "loop.example/g01292/laws.FnExactTouched", spec := "fnExactTouched", unfollowed := true, recurses := true, apart := false, narrowed := true }
def FnExactTouchedUptoSaid : Prop := fnExactTouchedUptoRow.holds Try.pinned (OpenSpec.upto fnExactTouchedSpec)

/-- 'laws.FnExactSizeOf', WHERE WHAT IT READS IS OF BULK AT MOST 1048576: true; the input reads as it did. -/
def fnExactSizeOfUptoRow : OpenClaim := { program := "ytcmoaigneafojaa", sum := "2a11ea22e06cf6739d41cf7a869484f420baeb0e6457fd3755b94df08da23561", func := "loop.example/g01292/laws.FnExactSizeOf", spec := "fnExactSizeOf", recurses := true, apart := false, narrowed := true }
def FnExactSizeOfUptoSaid : Prop := fnExactSizeOfUptoRow.holds Try.pinned (OpenSpec.upto fnExactSizeOfSpec)

/-- 'laws.FnExactValOk', WHERE WHAT IT READS IS OF BULK AT MOST 1048576: true; the input reads as it did. -/
def fnExactValOkUptoRow : OpenClaim := { program := "ytcmoaigneafojaa", sum := "2a11ea22e06cf6739d41cf7a869484f420baeb0e6457fd3755b94df08da23561", func := "loop.example/g01292/laws.FnExactValOk", spec := "fnExactValOk", apart := false, narrowed := true }
def FnExactValOkUptoSaid : Prop := fnExactValOkUptoRow.holds Try.pinned (OpenSpec.upto fnExactValOkSpec)

/-- 'laws.FnExactHeapOk', WHERE WHAT IT READS IS OF BULK AT MOST 1048576: true; the input reads as it did. -/
def fnExactHeapOkUptoRow : OpenClaim := { program := "ytcmoaigneafojaa", sum := "2a11ea22e06cf6739d41cf7a869484f420baeb0e6457fd3755b94df08da23561", func := "loop.example/g01292/laws.FnExactHeapOk", spec := "fnExactHeapOk", apart := false, narrowed := true }
def FnExactHeapOkUptoSaid : Prop := fnExactHeapOkUptoRow.holds Try.pinned (OpenSpec.upto fnExactHeapOkSpec)

end Rows
end Go.Proofs.Ytcmoaigneafojaa
