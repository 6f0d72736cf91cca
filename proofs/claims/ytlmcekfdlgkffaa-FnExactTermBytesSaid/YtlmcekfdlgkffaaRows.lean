/-
  No cell of these rows narrows 'for every input' (looked for: loops, veiled, ifaces, maps, wideKeys, modest, calm, conditions, laid).
  DERIVED. THE GIVEN ROWS OF THIS SEAT. 9 by the template 'for every input the law returns true; each argument reads behind the call as it read before'; 0 by the template 'total and deterministic' (their statements: YtlmcekfdlgkffaaTotals.lean).
  GIVEN WITH THE SEED: the statements are not yours to turn. If you find one false, say at which input.
  Laid BY PROGRAM, IN A SANDBOX (cutbox-rows.mjs): the forced cells as the released guide's own fill.sh prints them over the translation aa73d5901613daa3… (all of the seat's roots in one cut). By AI agents, Wed Nov 11 2026. No macro, syntax, notation, axiom, sorry.
-/
import Derived.Test.YtlmcekfdlgkffaaChecked
import GoSem.Claim
import GoSem.ClaimJoined
import GoSem.ClaimMapViews
import Derived.JoinedTies
import Derived.KernelRfl
namespace Go.Proofs.Ytlmcekfdlgkffaa
/- THE CELL 'sum', in the pinned program and in every row, IS THE sha256 OF THE DUMP (.gsa) THAT YtlmcekfdlgkffaaProg.lean LOADS. Nothing in Lean hashes anything: it is a label: what it is worth is what the hold of that sum in a sandbox is worth. -/
noncomputable def Try.pinned : Pinned := { name := "ytlmcekfdlgkffaa", sum := "aa73d5901613daa309ebe03965471441896f3496972ad9c1e046b579f1c1e250", checked := Try.checked }
namespace Rows
def none {H : Type} : Left H := { results := [], args := [] }

/-- 'laws.FnExactTermNew': WHATEVER THE INPUT: true; the input reads as it did. -/
def fnExactTermNewSpec : ChangeSpec := { name := "fnExactTermNew", fn := fun _ => fun
  | [d1, d2, d3] => { results := [.lit (.bool true)], args := [d1, d2, d3] }
  | _ => none }
def fnExactTermNewRow : OpenClaim := { program := "ytlmcekfdlgkffaa", sum := "aa73d5901613daa309ebe03965471441896f3496972ad9c1e046b579f1c1e250", func := "loop.example/g00661/laws.FnExactTermNew", spec := "fnExactTermNew", apart := false }
def FnExactTermNewSaid : Prop := fnExactTermNewRow.holds Try.pinned (OpenSpec.ofChange fnExactTermNewSpec)

/-- ITS FALSE NEIGHBOUR: 'it returns false'. Refute it at one input. -/
def fnExactTermNewWrong : ChangeSpec := { name := "fnExactTermNew", fn := fun _ => fun
  | [d1, d2, d3] => { results := [.lit (.bool false)], args := [d1, d2, d3] }
  | _ => none }
def FnExactTermNewWrongFalsely : Prop := fnExactTermNewRow.holds Try.pinned (OpenSpec.ofChange fnExactTermNewWrong)

/-- 'laws.FnExactVpByte': WHATEVER THE INPUT: true; the input reads as it did. -/
def fnExactVpByteSpec : ChangeSpec := { name := "fnExactVpByte", fn := fun _ => fun
  | [d1, d2] => { results := [.lit (.bool true)], args := [d1, d2] }
  | _ => none }
def fnExactVpByteRow : OpenClaim := { program := "ytlmcekfdlgkffaa", sum := "aa73d5901613daa309ebe03965471441896f3496972ad9c1e046b579f1c1e250", func := "loop.example/g00661/laws.FnExactVpByte", spec := "fnExactVpByte", unfollowed := true, recurses := true, apart := false }
def FnExactVpByteSaid : Prop := fnExactVpByteRow.holds Try.pinned (OpenSpec.ofChange fnExactVpByteSpec)

/-- ITS FALSE NEIGHBOUR: 'it returns false'. Refute it at one input. -/
def fnExactVpByteWrong : ChangeSpec := { name := "fnExactVpByte", fn := fun _ => fun
  | [d1, d2] => { results := [.lit (.bool false)], args := [d1, d2] }
  | _ => none }
def FnExactVpByteWrongFalsely : Prop := fnExactVpByteRow.holds Try.pinned (OpenSpec.ofChange fnExactVpByteWrong)

/-- 'laws.FnExactVpBytes': WHATEVER THE INPUT: true; the input reads as it did. -/
def fnExactVpBytesSpec : ChangeSpec := { name := "fnExactVpBytes", fn := fun _ => fun
  | [d1, d2] => { results := [.lit (.bool true)], args := [d1, d2] }
  | _ => none }
def fnExactVpBytesRow : OpenClaim := { program := "ytlmcekfdlgkffaa", sum := "aa73d5901613daa309ebe03965471441896f3496972ad9c1e046b579f1c1e250", func := "loop.example/g00661/laws.FnExactVpBytes", spec := "fnExactVpBytes", unfollowed := true, recurses := true, apart := false }
def FnExactVpBytesSaid : Prop := fnExactVpBytesRow.holds Try.pinned (OpenSpec.ofChange fnExactVpBytesSpec)

/-- ITS FALSE NEIGHBOUR: 'it returns false'. Refute it at one input. -/
def fnExactVpBytesWrong : ChangeSpec := { name := "fnExactVpBytes", fn := fun _ => fun
  | [d1, d2] => { results := [.lit (.bool false)], args := [d1, d2] }
  | _ => none }
def FnExactVpBytesWrongFalsely : Prop := fnExactVpBytesRow.holds Try.pinned (OpenSpec.ofChange fnExactVpBytesWrong)

/-- 'laws.FnExactTermOk': WHATEVER THE INPUT: true; the input reads as it did. -/
def fnExactTermOkSpec : ChangeSpec := { name := "fnExactTermOk", fn := fun _ => fun
  | [d] => { results := [.lit (.bool true)], args := [d] }
  | _ => none }
def fnExactTermOkRow : OpenClaim := { program := "ytlmcekfdlgkffaa", sum := "aa73d5901613daa309ebe03965471441896f3496972ad9c1e046b579f1c1e250", func := "loop.example/g00661/laws.FnExactTermOk", spec := "fnExactTermOk", unfollowed := true, recurses := true, apart := false }
def FnExactTermOkSaid : Prop := fnExactTermOkRow.holds Try.pinned (OpenSpec.ofChange fnExactTermOkSpec)

/-- ITS FALSE NEIGHBOUR: 'it returns false'. Refute it at one input. -/
def fnExactTermOkWrong : ChangeSpec := { name := "fnExactTermOk", fn := fun _ => fun
  | [d] => { results := [.lit (.bool false)], args := [d] }
  | _ => none }
def FnExactTermOkWrongFalsely : Prop := fnExactTermOkRow.holds Try.pinned (OpenSpec.ofChange fnExactTermOkWrong)

/-- 'laws.FnExactScrSize': WHATEVER THE INPUT: true; the input reads as it did. -/
def fnExactScrSizeSpec : ChangeSpec := { name := "fnExactScrSize", fn := fun _ => fun
  | [d1, d2, d3] => { results := [.lit (.bool true)], args := [d1, d2, d3] }
  | _ => none }
def fnExactScrSizeRow : OpenClaim := { program := "ytlmcekfdlgkffaa", sum := "aa73d5901613daa309ebe03965471441896f3496972ad9c1e046b579f1c1e250", func := "loop.example/g00661/laws.FnExactScrSize", spec := "fnExactScrSize", unfollowed := true, recurses := true, apart := false }
def FnExactScrSizeSaid : Prop := fnExactScrSizeRow.holds Try.pinned (OpenSpec.ofChange fnExactScrSizeSpec)

/-- ITS FALSE NEIGHBOUR: 'it returns false'. Refute it at one input. -/
def fnExactScrSizeWrong : ChangeSpec := { name := "fnExactScrSize", fn := fun _ => fun
  | [d1, d2, d3] => { results := [.lit (.bool false)], args := [d1, d2, d3] }
  | _ => none }
def FnExactScrSizeWrongFalsely : Prop := fnExactScrSizeRow.holds Try.pinned (OpenSpec.ofChange fnExactScrSizeWrong)

/-- 'laws.FnSize': WHATEVER THE INPUT: true; the input reads as it did. -/
def fnSizeSpec : ChangeSpec := { name := "fnSize", fn := fun _ => fun
  | [d] => { results := [.lit (.bool true)], args := [d] }
  | _ => none }
def fnSizeRow : OpenClaim := { program := "ytlmcekfdlgkffaa", sum := "aa73d5901613daa309ebe03965471441896f3496972ad9c1e046b579f1c1e250", func := "loop.example/g00661/laws.FnSize", spec := "fnSize", unfollowed := true, recurses := true, apart := false }
def FnSizeSaid : Prop := fnSizeRow.holds Try.pinned (OpenSpec.ofChange fnSizeSpec)

/-- ITS FALSE NEIGHBOUR: 'it returns false'. Refute it at one input. -/
def fnSizeWrong : ChangeSpec := { name := "fnSize", fn := fun _ => fun
  | [d] => { results := [.lit (.bool false)], args := [d] }
  | _ => none }
def FnSizeWrongFalsely : Prop := fnSizeRow.holds Try.pinned (OpenSpec.ofChange fnSizeWrong)

/-- 'laws.FnAlt': WHATEVER THE INPUT: true; the input reads as it did. -/
def fnAltSpec : ChangeSpec := { name := "fnAlt", fn := fun _ => fun
  | [d] => { results := [.lit (.bool true)], args := [d] }
  | _ => none }
def fnAltRow : OpenClaim := { program := "ytlmcekfdlgkffaa", sum := "aa73d5901613daa309ebe03965471441896f3496972ad9c1e046b579f1c1e250", func := "loop.example/g00661/laws.FnAlt", spec := "fnAlt", unfollowed := true, recurses := true, apart := false }
def FnAltSaid : Prop := fnAltRow.holds Try.pinned (OpenSpec.ofChange fnAltSpec)

/-- ITS FALSE NEIGHBOUR: 'it returns false'. Refute it at one input. -/
def fnAltWrong : ChangeSpec := { name := "fnAlt", fn := fun _ => fun
  | [d] => { results := [.lit (.bool false)], args := [d] }
  | _ => none }
def FnAltWrongFalsely : Prop := fnAltRow.holds Try.pinned (OpenSpec.ofChange fnAltWrong)

/-- 'laws.FnExactTermBytes': WHATEVER THE INPUT: true; the input reads as it did. -/
def fnExactTermBytesSpec : ChangeSpec := { name := "fnExactTermBytes", fn := fun _ => fun
  | [d] => { results := [.lit (.bool true)], args := [d] }
  | _ => none }
def fnExactTermBytesRow : OpenClaim := { program := "ytlmcekfdlgkffaa", sum := "aa73d5901613daa309ebe03965471441896f3496972ad9c1e046b579f1c1e250", func := "loop.example/g00661/laws.FnExactTermBytes", spec := "fnExactTermBytes", unfollowed := true, recurses := true, apart := false }
def FnExactTermBytesSaid : Prop := fnExactTermBytesRow.holds Try.pinned (OpenSpec.ofChange fnExactTermBytesSpec)

/-- ITS FALSE NEIGHBOUR: 'it returns false'. Refute it at one input. -/
def fnExactTermBytesWrong : ChangeSpec := { name := "fnExactTermBytes", fn := fun _ => fun
  | [d] => { results := [.lit (.bool false)], args := [d] }
  | _ => none }
def FnExactTermBytesWrongFalsely : Prop := fnExactTermBytesRow.holds Try.pinned (OpenSpec.ofChange fnExactTermBytesWrong)

/-- 'laws.FnWrite': WHATEVER THE INPUT: true; the input reads as it did. -/
def fnWriteSpec : ChangeSpec := { name := "fnWrite", fn := fun _ => fun
  | [d] => { results := [.lit (.bool true)], args := [d] }
  | _ => none }
def fnWriteRow : OpenClaim := { program := "ytlmcekfdlgkffaa", sum := "aa73d5901613daa309ebe03965471441896f3496972ad9c1e046b579f1c1e250", func := "loop.example/g00661/laws.FnWrite", spec := "fnWrite", inPlace := ["slices.overlaps[int]"], unfollowed := true, recurses := true, apart := false }
def FnWriteSaid : Prop := fnWriteRow.holds Try.pinned (OpenSpec.ofChange fnWriteSpec)

/-- ITS FALSE NEIGHBOUR: 'it returns false'. Refute it at one input. -/
def fnWriteWrong : ChangeSpec := { name := "fnWrite", fn := fun _ => fun
  | [d] => { results := [.lit (.bool false)], args := [d] }
  | _ => none }
def FnWriteWrongFalsely : Prop := fnWriteRow.holds Try.pinned (OpenSpec.ofChange fnWriteWrong)

/- THE SECOND FORM. 'bulk': how many values and letters a reading holds, each counted each time it is reached (what is shared counts as often as it is met; a slice's spare places count too). A statement '..UptoSaid' is the law's where the arguments, and the package variables that the reading takes, are together of bulk at most 1048576: NARROWER than '..Said'. Prove '..Said' where nothing that the law and all that it calls make is longer than what came in: it says more and counts as full. Else prove '..UptoSaid'. A law counts once. -/
mutual
def uptoBulk {H : Type} : DataW H → Nat
  | .lit (.string bytes) => bytes.length + 1
  | .lit _ => 1
  | .nil => 1
  | .ptr d => uptoBulk d + 1
  | .slice elems spare => uptoBulkAll elems + uptoBulkAll spare + 1
  | .agg parts => uptoBulkAll parts + 1
  | .iface _ d => uptoBulk d + 1
  | .map entries => uptoBulkEntries entries + 1
  | .held _ => 1
def uptoBulkAll {H : Type} : List (DataW H) → Nat
  | [] => 0
  | d :: r => uptoBulk d + uptoBulkAll r
def uptoBulkEntries {H : Type} : List (Lit × DataW H) → Nat
  | [] => 0
  | x :: r => uptoBulkEntry x + uptoBulkEntries r
def uptoBulkEntry {H : Type} : Lit × DataW H → Nat
  | (.string bytes, d) => bytes.length + uptoBulk d + 1
  | (_, d) => uptoBulk d + 1
 end
def uptoSmall : (H : Type) → List (DataW H) → Bool := fun _ ds => decide (uptoBulkAll ds ≤ 1048576)
def OpenSpec.upto (s : _root_.Go.ChangeSpec) : _root_.Go.OpenSpec := { _root_.Go.OpenSpec.ofChange s with cond := some uptoSmall }

/-- 'laws.FnExactTermNew', WHERE WHAT IT READS IS OF BULK AT MOST 1048576: true; the input reads as it did. -/
def fnExactTermNewUptoRow : OpenClaim := { program := "ytlmcekfdlgkffaa", sum := "aa73d5901613daa309ebe03965471441896f3496972ad9c1e046b579f1c1e250", func := "loop.example/g00661/laws.FnExactTermNew", spec := "fnExactTermNew", apart := false, narrowed := true }
def FnExactTermNewUptoSaid : Prop := fnExactTermNewUptoRow.holds Try.pinned (OpenSpec.upto fnExactTermNewSpec)

/-- 'laws.FnExactVpByte', WHERE WHAT IT READS IS OF BULK AT MOST 1048576: true; the input reads as it did. -/
def fnExactVpByteUptoRow : OpenClaim := { program := "ytlmcekfdlgkffaa", sum := "aa73d5901613daa309ebe03965471441896f3496972ad9c1e046b579f1c1e250", func := "loop.example/g00661/laws.FnExactVpByte", spec := "fnExactVpByte", unfollowed := true, recurses := true, apart := false, narrowed := true }
def FnExactVpByteUptoSaid : Prop := fnExactVpByteUptoRow.holds Try.pinned (OpenSpec.upto fnExactVpByteSpec)

/-- 'laws.FnExactVpBytes', WHERE WHAT IT READS IS OF BULK AT MOST 1048576: true; the input reads as it did. -/
def fnExactVpBytesUptoRow : OpenClaim := { program := "ytlmcekfdlgkffaa", sum := "aa73d5901613daa309ebe03965471441896f3496972ad9c1e046b579f1c1e250", func := "loop.example/g00661/laws.FnExactVpBytes", spec := "fnExactVpBytes", unfollowed := true, recurses := true, apart := false, narrowed := true }
def FnExactVpBytesUptoSaid : Prop := fnExactVpBytesUptoRow.holds Try.pinned (OpenSpec.upto fnExactVpBytesSpec)

/-- 'laws.FnExactTermOk', WHERE WHAT IT READS IS OF BULK AT MOST 1048576: true; the input reads as it did. -/
def fnExactTermOkUptoRow : OpenClaim := { program := "ytlmcekfdlgkffaa", sum := "aa73d5901613daa309ebe03965471441896f3496972ad9c1e046b579f1c1e250", func := "loop.example/g00661/laws.FnExactTermOk", spec := "fnExactTermOk", unfollowed := true, recurses := true, apart := false, narrowed := true }
def FnExactTermOkUptoSaid : Prop := fnExactTermOkUptoRow.holds Try.pinned (OpenSpec.upto fnExactTermOkSpec)

/-- 'laws.FnExactScrSize', WHERE WHAT IT READS IS OF BULK AT MOST 1048576: true; the input reads as it did. -/
def fnExactScrSizeUptoRow : OpenClaim := { program := "ytlmcekfdlgkffaa", sum := "aa73d5901613daa309ebe03965471441896f3496972ad9c1e046b579f1c1e250", func := "loop.example/g00661/laws.FnExactScrSize", spec := "fnExactScrSize", unfollowed := true, recurses := true, apart := false, narrowed := true }
def FnExactScrSizeUptoSaid : Prop := fnExactScrSizeUptoRow.holds Try.pinned (OpenSpec.upto fnExactScrSizeSpec)

/-- 'laws.FnSize', WHERE WHAT IT READS IS OF BULK AT MOST 1048576: true; the input reads as it did. -/
def fnSizeUptoRow : OpenClaim := { program := "ytlmcekfdlgkffaa", sum := "aa73d5901613daa309ebe03965471441896f3496972ad9c1e046b579f1c1e250", func := "loop.example/g00661/laws.FnSize", spec := "fnSize", unfollowed := true, recurses := true, apart := false, narrowed := true }
def FnSizeUptoSaid : Prop := fnSizeUptoRow.holds Try.pinned (OpenSpec.upto fnSizeSpec)

/-- 'laws.FnAlt', WHERE WHAT IT READS IS OF BULK AT MOST 1048576: true; the input reads as it did. -/
def fnAltUptoRow : OpenClaim := { program := "ytlmcekfdlgkffaa", sum := "aa73d5901613daa309ebe03965471441896f3496972ad9c1e046b579f1c1e250", func := "loop.example/g00661/laws.FnAlt", spec := "fnAlt", unfollowed := true, recurses := true, apart := false, narrowed := true }
def FnAltUptoSaid : Prop := fnAltUptoRow.holds Try.pinned (OpenSpec.upto fnAltSpec)

/-- 'laws.FnExactTermBytes', WHERE WHAT IT READS IS OF BULK AT MOST 1048576: true; the input reads as it did. -/
def fnExactTermBytesUptoRow : OpenClaim := { program := "ytlmcekfdlgkffaa", sum := "aa73d5901613daa309ebe03965471441896f3496972ad9c1e046b579f1c1e250", func := "loop.example/g00661/laws.FnExactTermBytes", spec := "fnExactTermBytes", unfollowed := true, recurses := true, apart := false, narrowed := true }
def FnExactTermBytesUptoSaid : Prop := fnExactTermBytesUptoRow.holds Try.pinned (OpenSpec.upto fnExactTermBytesSpec)

/-- 'laws.FnWrite', WHERE WHAT IT READS IS OF BULK AT MOST 1048576: true; the input reads as it did. -/
def fnWriteUptoRow : OpenClaim := { program := "ytlmcekfdlgkffaa", sum := "aa73d5901613daa309ebe03965471441896f3496972ad9c1e046b579f1c1e250", func := "loop.example/g00661/laws.FnWrite", spec := "fnWrite", inPlace := ["slices.overlaps[int]"], unfollowed := true, recurses := true, apart := false, narrowed := true }
def FnWriteUptoSaid : Prop := fnWriteUptoRow.holds Try.pinned (OpenSpec.upto fnWriteSpec)

end Rows
end Go.Proofs.Ytlmcekfdlgkffaa
