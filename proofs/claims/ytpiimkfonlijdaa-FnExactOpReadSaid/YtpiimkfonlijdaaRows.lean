/-
  No cell of these rows narrows 'for every input' (looked for: loops, veiled, ifaces, maps, wideKeys, modest, calm, conditions, laid).
  DERIVED. THE GIVEN ROWS OF THIS SEAT. 7 by the template 'for every input the law returns true; each argument reads behind the call as it read before'; 0 by the template 'total and deterministic' (their statements: YtpiimkfonlijdaaTotals.lean).
  GIVEN WITH THE SEED: the statements are not yours to turn. If you find one false, say at which input.
  Laid BY PROGRAM, IN A SANDBOX (cutbox-rows.mjs): the forced cells as the released guide's own fill.sh prints them over the translation 52888fec0cc9c6c9… (all of the seat's roots in one cut). By AI agents, Wed Nov 11 2026. No macro, syntax, notation, axiom, sorry.
-/
import Derived.Test.YtpiimkfonlijdaaChecked
import GoSem.Claim
import GoSem.ClaimJoined
import GoSem.ClaimMapViews
import Derived.JoinedTies
import Derived.KernelRfl
namespace Go.Proofs.Ytpiimkfonlijdaa
/- THE CELL 'sum', in the pinned program and in every row, IS THE sha256 OF THE DUMP (.gsa) THAT YtpiimkfonlijdaaProg.lean LOADS. Nothing in Lean hashes anything: it is a label: what it is worth is what the hold of that sum in a sandbox is worth. -/
noncomputable def Try.pinned : Pinned := { name := "ytpiimkfonlijdaa", sum := "52888fec0cc9c6c941a29d1858bc9bfbca83eadd7cae8dae4917c4103465fdaa", checked := Try.checked }
namespace Rows
def none {H : Type} : Left H := { results := [], args := [] }

/-- 'laws.FnExactOpOk': WHATEVER THE INPUT: true; the input reads as it did. -/
def fnExactOpOkSpec : ChangeSpec := { name := "fnExactOpOk", fn := fun _ => fun
  | [d] => { results := [.lit (.bool true)], args := [d] }
  | _ => none }
def fnExactOpOkRow : OpenClaim := { program := "ytpiimkfonlijdaa", sum := "52888fec0cc9c6c941a29d1858bc9bfbca83eadd7cae8dae4917c4103465fdaa", func := "loop.example/g00661/laws.FnExactOpOk", spec := "fnExactOpOk", inPlace := ["internal/bytealg.IndexByteString"], apart := false }
def FnExactOpOkSaid : Prop := fnExactOpOkRow.holds Try.pinned (OpenSpec.ofChange fnExactOpOkSpec)

/-- ITS FALSE NEIGHBOUR: 'it returns false'. Refute it at one input. -/
def fnExactOpOkWrong : ChangeSpec := { name := "fnExactOpOk", fn := fun _ => fun
  | [d] => { results := [.lit (.bool false)], args := [d] }
  | _ => none }
def FnExactOpOkWrongFalsely : Prop := fnExactOpOkRow.holds Try.pinned (OpenSpec.ofChange fnExactOpOkWrong)

/-- 'laws.FnExactCellsBytes': WHATEVER THE INPUT: true; the input reads as it did. -/
def fnExactCellsBytesSpec : ChangeSpec := { name := "fnExactCellsBytes", fn := fun _ => fun
  | [d] => { results := [.lit (.bool true)], args := [d] }
  | _ => none }
def fnExactCellsBytesRow : OpenClaim := { program := "ytpiimkfonlijdaa", sum := "52888fec0cc9c6c941a29d1858bc9bfbca83eadd7cae8dae4917c4103465fdaa", func := "loop.example/g00661/laws.FnExactCellsBytes", spec := "fnExactCellsBytes", unfollowed := true, recurses := true, apart := false }
def FnExactCellsBytesSaid : Prop := fnExactCellsBytesRow.holds Try.pinned (OpenSpec.ofChange fnExactCellsBytesSpec)

/-- ITS FALSE NEIGHBOUR: 'it returns false'. Refute it at one input. -/
def fnExactCellsBytesWrong : ChangeSpec := { name := "fnExactCellsBytes", fn := fun _ => fun
  | [d] => { results := [.lit (.bool false)], args := [d] }
  | _ => none }
def FnExactCellsBytesWrongFalsely : Prop := fnExactCellsBytesRow.holds Try.pinned (OpenSpec.ofChange fnExactCellsBytesWrong)

/-- 'laws.FnExactOpBytes': WHATEVER THE INPUT: true; the input reads as it did. -/
def fnExactOpBytesSpec : ChangeSpec := { name := "fnExactOpBytes", fn := fun _ => fun
  | [d] => { results := [.lit (.bool true)], args := [d] }
  | _ => none }
def fnExactOpBytesRow : OpenClaim := { program := "ytpiimkfonlijdaa", sum := "52888fec0cc9c6c941a29d1858bc9bfbca83eadd7cae8dae4917c4103465fdaa", func := "loop.example/g00661/laws.FnExactOpBytes", spec := "fnExactOpBytes", inPlace := ["internal/bytealg.IndexByteString"], apart := false }
def FnExactOpBytesSaid : Prop := fnExactOpBytesRow.holds Try.pinned (OpenSpec.ofChange fnExactOpBytesSpec)

/-- ITS FALSE NEIGHBOUR: 'it returns false'. Refute it at one input. -/
def fnExactOpBytesWrong : ChangeSpec := { name := "fnExactOpBytes", fn := fun _ => fun
  | [d] => { results := [.lit (.bool false)], args := [d] }
  | _ => none }
def FnExactOpBytesWrongFalsely : Prop := fnExactOpBytesRow.holds Try.pinned (OpenSpec.ofChange fnExactOpBytesWrong)

/-- 'laws.FnExactCellsRead': WHATEVER THE INPUT: true; the input reads as it did. -/
def fnExactCellsReadSpec : ChangeSpec := { name := "fnExactCellsRead", fn := fun _ => fun
  | [d1, d2, d3] => { results := [.lit (.bool true)], args := [d1, d2, d3] }
  | _ => none }
def fnExactCellsReadRow : OpenClaim := { program := "ytpiimkfonlijdaa", sum := "52888fec0cc9c6c941a29d1858bc9bfbca83eadd7cae8dae4917c4103465fdaa", func := "loop.example/g00661/laws.FnExactCellsRead", spec := "fnExactCellsRead", apart := false }
def FnExactCellsReadSaid : Prop := fnExactCellsReadRow.holds Try.pinned (OpenSpec.ofChange fnExactCellsReadSpec)

/-- ITS FALSE NEIGHBOUR: 'it returns false'. Refute it at one input. -/
def fnExactCellsReadWrong : ChangeSpec := { name := "fnExactCellsRead", fn := fun _ => fun
  | [d1, d2, d3] => { results := [.lit (.bool false)], args := [d1, d2, d3] }
  | _ => none }
def FnExactCellsReadWrongFalsely : Prop := fnExactCellsReadRow.holds Try.pinned (OpenSpec.ofChange fnExactCellsReadWrong)

/-- 'laws.FnExactOpRead': WHATEVER THE INPUT: true; the input reads as it did. -/
def fnExactOpReadSpec : ChangeSpec := { name := "fnExactOpRead", fn := fun _ => fun
  | [d] => { results := [.lit (.bool true)], args := [d] }
  | _ => none }
def fnExactOpReadRow : OpenClaim := { program := "ytpiimkfonlijdaa", sum := "52888fec0cc9c6c941a29d1858bc9bfbca83eadd7cae8dae4917c4103465fdaa", func := "loop.example/g00661/laws.FnExactOpRead", spec := "fnExactOpRead", inPlace := ["internal/bytealg.IndexByteString"], apart := false }
def FnExactOpReadSaid : Prop := fnExactOpReadRow.holds Try.pinned (OpenSpec.ofChange fnExactOpReadSpec)

/-- ITS FALSE NEIGHBOUR: 'it returns false'. Refute it at one input. -/
def fnExactOpReadWrong : ChangeSpec := { name := "fnExactOpRead", fn := fun _ => fun
  | [d] => { results := [.lit (.bool false)], args := [d] }
  | _ => none }
def FnExactOpReadWrongFalsely : Prop := fnExactOpReadRow.holds Try.pinned (OpenSpec.ofChange fnExactOpReadWrong)

/-- 'laws.FnExactTermNew': WHATEVER THE INPUT: true; the input reads as it did. -/
def fnExactTermNewSpec : ChangeSpec := { name := "fnExactTermNew", fn := fun _ => fun
  | [d1, d2, d3] => { results := [.lit (.bool true)], args := [d1, d2, d3] }
  | _ => none }
def fnExactTermNewRow : OpenClaim := { program := "ytpiimkfonlijdaa", sum := "52888fec0cc9c6c941a29d1858bc9bfbca83eadd7cae8dae4917c4103465fdaa", func := "loop.example/g00661/laws.FnExactTermNew", spec := "fnExactTermNew", apart := false }
def FnExactTermNewSaid : Prop := fnExactTermNewRow.holds Try.pinned (OpenSpec.ofChange fnExactTermNewSpec)

/-- ITS FALSE NEIGHBOUR: 'it returns false'. Refute it at one input. -/
def fnExactTermNewWrong : ChangeSpec := { name := "fnExactTermNew", fn := fun _ => fun
  | [d1, d2, d3] => { results := [.lit (.bool false)], args := [d1, d2, d3] }
  | _ => none }
def FnExactTermNewWrongFalsely : Prop := fnExactTermNewRow.holds Try.pinned (OpenSpec.ofChange fnExactTermNewWrong)

/-- 'laws.FnExactTreeOk': WHATEVER THE INPUT: true; the input reads as it did. -/
def fnExactTreeOkSpec : ChangeSpec := { name := "fnExactTreeOk", fn := fun _ => fun
  | [d] => { results := [.lit (.bool true)], args := [d] }
  | _ => none }
def fnExactTreeOkRow : OpenClaim := { program := "ytpiimkfonlijdaa", sum := "52888fec0cc9c6c941a29d1858bc9bfbca83eadd7cae8dae4917c4103465fdaa", func := "loop.example/g00661/laws.FnExactTreeOk", spec := "fnExactTreeOk", recurses := true, apart := false }
def FnExactTreeOkSaid : Prop := fnExactTreeOkRow.holds Try.pinned (OpenSpec.ofChange fnExactTreeOkSpec)

/-- ITS FALSE NEIGHBOUR: 'it returns false'. Refute it at one input. -/
def fnExactTreeOkWrong : ChangeSpec := { name := "fnExactTreeOk", fn := fun _ => fun
  | [d] => { results := [.lit (.bool false)], args := [d] }
  | _ => none }
def FnExactTreeOkWrongFalsely : Prop := fnExactTreeOkRow.holds Try.pinned (OpenSpec.ofChange fnExactTreeOkWrong)

/- THE SECOND FORM. 'bulk': how many values and letters a reading holds, each counted each time it is reached (what is shared counts as often as it is met; a slice's spare places count too). A statement '..UptoSaid' is the law's where the arguments, and the package variables that the reading takes, are together of bulk at most 1048576: NARROWER than '..Said'. Prove '..Said' where nothing that the law and all that it calls make is longer than what came in: it says more and counts as full. Else prove '..UptoSaid'. A law counts once. -/
mutual
def uptoBulk {H : Type} : DataW H → Nat
  | .lit (.string bytes) => bytes.length + 1
  | .lit _ => 1
  | .nil => 1
  | .ptr d => uptoBulk d + 1
  | .slice elems spare => uptoBulkAll elems + uptoBulkAll spare + 1
  | .agg parts => uptoBulkAll parts + 1
  | .iface _ d => uptoBulk d + 1
  | .map entries => uptoBulkEntries entries + 1
  | .held _ => 1
def uptoBulkAll {H : Type} : List (DataW H) → Nat
  | [] => 0
  | d :: r => uptoBulk d + uptoBulkAll r
def uptoBulkEntries {H : Type} : List (Lit × DataW H) → Nat
  | [] => 0
  | x :: r => uptoBulkEntry x + uptoBulkEntries r
def uptoBulkEntry {H : Type} : Lit × DataW H → Nat
  | (.string bytes, d) => bytes.length + uptoBulk d + 1
  | (_, d) => uptoBulk d + 1
 end
def uptoSmall : (H : Type) → List (DataW H) → Bool := fun _ ds => decide (uptoBulkAll ds ≤ 1048576)
def OpenSpec.upto (s : _root_.Go.ChangeSpec) : _root_.Go.OpenSpec := { _root_.Go.OpenSpec.ofChange s with cond := some uptoSmall }

/-- 'laws.FnExactOpOk', WHERE WHAT IT READS IS OF BULK AT MOST 1048576: true; the input reads as it did. -/
def fnExactOpOkUptoRow : OpenClaim := { program := "ytpiimkfonlijdaa", sum := "52888fec0cc9c6c941a29d1858bc9bfbca83eadd7cae8dae4917c4103465fdaa", func := "loop.example/g00661/laws.FnExactOpOk", spec := "fnExactOpOk", inPlace := ["internal/bytealg.IndexByteString"], apart := false, narrowed := true }
def FnExactOpOkUptoSaid : Prop := fnExactOpOkUptoRow.holds Try.pinned (OpenSpec.upto fnExactOpOkSpec)

/-- 'laws.FnExactCellsBytes', WHERE WHAT IT READS IS OF BULK AT MOST 1048576: true; the input reads as it did. -/
def fnExactCellsBytesUptoRow : OpenClaim := { program := "ytpiimkfonlijdaa", sum := "52888fec0cc9c6c941a29d1858bc9bfbca83eadd7cae8dae4917c4103465fdaa", func := "loop.example/g00661/laws.FnExactCellsBytes", spec := "fnExactCellsBytes", unfollowed := true, recurses := true, apart := false, narrowed := true }
def FnExactCellsBytesUptoSaid : Prop := fnExactCellsBytesUptoRow.holds Try.pinned (OpenSpec.upto fnExactCellsBytesSpec)

/-- 'laws.FnExactOpBytes', WHERE WHAT IT READS IS OF BULK AT MOST 1048576: true; the input reads as it did. -/
def fnExactOpBytesUptoRow : OpenClaim := { program := "ytpiimkfonlijdaa", sum := "52888fec0cc9c6c941a29d1858bc9bfbca83eadd7cae8dae4917c4103465fdaa", func := "loop.example/g00661/laws.FnExactOpBytes", spec := "fnExactOpBytes", inPlace := ["internal/bytealg.IndexByteString"], apart := false, narrowed := true }
def FnExactOpBytesUptoSaid : Prop := fnExactOpBytesUptoRow.holds Try.pinned (OpenSpec.upto fnExactOpBytesSpec)

/-- 'laws.FnExactCellsRead', WHERE WHAT IT READS IS OF BULK AT MOST 1048576: true; the input reads as it did. -/
def fnExactCellsReadUptoRow : OpenClaim := { program := "ytpiimkfonlijdaa", sum := "52888fec0cc9c6c941a29d1858bc9bfbca83eadd7cae8dae4917c4103465fdaa", func := "loop.example/g00661/laws.FnExactCellsRead", spec := "fnExactCellsRead", apart := false, narrowed := true }
def FnExactCellsReadUptoSaid : Prop := fnExactCellsReadUptoRow.holds Try.pinned (OpenSpec.upto fnExactCellsReadSpec)

/-- 'laws.FnExactOpRead', WHERE WHAT IT READS IS OF BULK AT MOST 1048576: true; the input reads as it did. -/
def fnExactOpReadUptoRow : OpenClaim := { program := "ytpiimkfonlijdaa", sum := "52888fec0cc9c6c941a29d1858bc9bfbca83eadd7cae8dae4917c4103465fdaa", func := "loop.example/g00661/laws.FnExactOpRead", spec := "fnExactOpRead", inPlace := ["internal/bytealg.IndexByteString"], apart := false, narrowed := true }
def FnExactOpReadUptoSaid : Prop := fnExactOpReadUptoRow.holds Try.pinned (OpenSpec.upto fnExactOpReadSpec)

/-- 'laws.FnExactTermNew', WHERE WHAT IT READS IS OF BULK AT MOST 1048576: true; the input reads as it did. -/
def fnExactTermNewUptoRow : OpenClaim := { program := "ytpiimkfonlijdaa", sum := "52888fec0cc9c6c941a29d1858bc9bfbca83eadd7cae8dae4917c4103465fdaa", func := "loop.example/g00661/laws.FnExactTermNew", spec := "fnExactTermNew", apart := false, narrowed := true }
def FnExactTermNewUptoSaid : Prop := fnExactTermNewUptoRow.holds Try.pinned (OpenSpec.upto fnExactTermNewSpec)

/-- 'laws.FnExactTreeOk', WHERE WHAT IT READS IS OF BULK AT MOST 1048576: true; the input reads as it did. -/
def fnExactTreeOkUptoRow : OpenClaim := { program := "ytpiimkfonlijdaa", sum := "52888fec0cc9c6c941a29d1858bc9bfbca83eadd7cae8dae4917c4103465fdaa", func := "loop.example/g00661/laws.FnExactTreeOk", spec := "fnExactTreeOk", recurses := true, apart := false, narrowed := true }
def FnExactTreeOkUptoSaid : Prop := fnExactTreeOkUptoRow.holds Try.pinned (OpenSpec.upto fnExactTreeOkSpec)

end Rows
end Go.Proofs.Ytpiimkfonlijdaa
