/-
  No cell of these rows narrows 'for every input' (looked for: loops, veiled, ifaces, maps, wideKeys, modest, calm, conditions, laid).
  DERIVED. THE GIVEN ROWS OF THIS SEAT. 8 by the template 'for every input the law returns true; each argument reads behind the call as it read before'; 0 by the template 'total and deterministic' (their statements: YthfhhldbglaieaaGreatTotals.lean).
  GIVEN WITH THE SEED: the statements are not yours to turn. If you find one false, say at which input.
  Laid BY PROGRAM, IN A SANDBOX (cutbox-rows.mjs): the forced cells as the released guide's own fill.sh prints them over the translation 17bf0170b106ff82… (all of the seat's roots in one cut). By AI agents, Wed Nov 11 2026. No macro, syntax, notation, axiom, sorry.
-/
import Derived.Test.YthfhhldbglaieaaGreatChecked
import GoSem.Claim
import GoSem.ClaimJoined
import GoSem.ClaimMapViews
import Derived.JoinedTies
import Derived.KernelRfl
namespace Go.Proofs.YthfhhldbglaieaaGreat
/- THE CELL 'sum', in the pinned program and in every row, IS THE sha256 OF THE DUMP (.gsa) THAT YthfhhldbglaieaaGreatProg.lean LOADS. Nothing in Lean hashes anything: it is a label: what it is worth is what the hold of that sum in a sandbox is worth. -/
noncomputable def Tryz.pinned : Pinned := { name := "ythfhhldbglaieaagreat", sum := "17bf0170b106ff8250ac228358b13125cf442352912e4b77d7e247180a9238ce", checked := Tryz.checked }
namespace Rows
def none {H : Type} : Left H := { results := [], args := [] }

/-- 'laws.FnExactWinOf': WHATEVER THE INPUT: true; the input reads as it did. -/
def fnExactWinOfSpec : ChangeSpec := { name := "fnExactWinOf", fn := fun _ => fun
  | [d1, d2] => { results := [.lit (.bool true)], args := [d1, d2] }
  | _ => none }
def fnExactWinOfRow : OpenClaim := { program := "ythfhhldbglaieaagreat", sum := "17bf0170b106ff8250ac228358b13125cf442352912e4b77d7e247180a9238ce", func := "loop.example/g00661/laws.FnExactWinOf", spec := "fnExactWinOf", unfollowed := true, recurses := true, apart := false }
def FnExactWinOfSaid : Prop := fnExactWinOfRow.holds Tryz.pinned (OpenSpec.ofChange fnExactWinOfSpec)

/-- ITS FALSE NEIGHBOUR: 'it returns false'. Refute it at one input. -/
def fnExactWinOfWrong : ChangeSpec := { name := "fnExactWinOf", fn := fun _ => fun
  | [d1, d2] => { results := [.lit (.bool false)], args := [d1, d2] }
  | _ => none }
def FnExactWinOfWrongFalsely : Prop := fnExactWinOfRow.holds Tryz.pinned (OpenSpec.ofChange fnExactWinOfWrong)

/-- 'laws.FnExactArea': WHATEVER THE INPUT: true; the input reads as it did. -/
def fnExactAreaSpec : ChangeSpec := { name := "fnExactArea", fn := fun _ => fun
  | [d1, d2] => { results := [.lit (.bool true)], args := [d1, d2] }
  | _ => none }
def fnExactAreaRow : OpenClaim := { program := "ythfhhldbglaieaagreat", sum := "17bf0170b106ff8250ac228358b13125cf442352912e4b77d7e247180a9238ce", func := "loop.example/g00661/laws.FnExactArea", spec := "fnExactArea", unfollowed := true, recurses := true, apart := false }
def FnExactAreaSaid : Prop := fnExactAreaRow.holds Tryz.pinned (OpenSpec.ofChange fnExactAreaSpec)

/-- ITS FALSE NEIGHBOUR: 'it returns false'. Refute it at one input. -/
def fnExactAreaWrong : ChangeSpec := { name := "fnExactArea", fn := fun _ => fun
  | [d1, d2] => { results := [.lit (.bool false)], args := [d1, d2] }
  | _ => none }
def FnExactAreaWrongFalsely : Prop := fnExactAreaRow.holds Tryz.pinned (OpenSpec.ofChange fnExactAreaWrong)

/-- 'laws.FnExactStateOk': WHATEVER THE INPUT: true; the input reads as it did. -/
def fnExactStateOkSpec : ChangeSpec := { name := "fnExactStateOk", fn := fun _ => fun
  | [d] => { results := [.lit (.bool true)], args := [d] }
  | _ => none }
def fnExactStateOkRow : OpenClaim := { program := "ythfhhldbglaieaagreat", sum := "17bf0170b106ff8250ac228358b13125cf442352912e4b77d7e247180a9238ce", func := "loop.example/g00661/laws.FnExactStateOk", spec := "fnExactStateOk", inPlace := ["internal/bytealg.IndexByteString"], unfollowed := true, recurses := true, apart := false }
def FnExactStateOkSaid : Prop := fnExactStateOkRow.holds Tryz.pinned (OpenSpec.ofChange fnExactStateOkSpec)

/-- ITS FALSE NEIGHBOUR: 'it returns false'. Refute it at one input. -/
def fnExactStateOkWrong : ChangeSpec := { name := "fnExactStateOk", fn := fun _ => fun
  | [d] => { results := [.lit (.bool false)], args := [d] }
  | _ => none }
def FnExactStateOkWrongFalsely : Prop := fnExactStateOkRow.holds Tryz.pinned (OpenSpec.ofChange fnExactStateOkWrong)

/-- 'laws.FnExactStateNew': WHATEVER THE INPUT: true; the input reads as it did. -/
def fnExactStateNewSpec : ChangeSpec := { name := "fnExactStateNew", fn := fun _ => fun
  | [d1, d2, d3] => { results := [.lit (.bool true)], args := [d1, d2, d3] }
  | _ => none }
def fnExactStateNewRow : OpenClaim := { program := "ythfhhldbglaieaagreat", sum := "17bf0170b106ff8250ac228358b13125cf442352912e4b77d7e247180a9238ce", func := "loop.example/g00661/laws.FnExactStateNew", spec := "fnExactStateNew", inPlace := ["internal/bytealg.IndexByteString"], unfollowed := true, recurses := true, apart := false }
def FnExactStateNewSaid : Prop := fnExactStateNewRow.holds Tryz.pinned (OpenSpec.ofChange fnExactStateNewSpec)

/-- ITS FALSE NEIGHBOUR: 'it returns false'. Refute it at one input. -/
def fnExactStateNewWrong : ChangeSpec := { name := "fnExactStateNew", fn := fun _ => fun
  | [d1, d2, d3] => { results := [.lit (.bool false)], args := [d1, d2, d3] }
  | _ => none }
def FnExactStateNewWrongFalsely : Prop := fnExactStateNewRow.holds Tryz.pinned (OpenSpec.ofChange fnExactStateNewWrong)

/-- 'laws.FnExactStateBytes': WHATEVER THE INPUT: true; the input reads as it did. -/
def fnExactStateBytesSpec : ChangeSpec := { name := "fnExactStateBytes", fn := fun _ => fun
  | [d] => { results := [.lit (.bool true)], args := [d] }
  | _ => none }
def fnExactStateBytesRow : OpenClaim := { program := "ythfhhldbglaieaagreat", sum := "17bf0170b106ff8250ac228358b13125cf442352912e4b77d7e247180a9238ce", func := "loop.example/g00661/laws.FnExactStateBytes", spec := "fnExactStateBytes", inPlace := ["internal/bytealg.IndexByteString"], unfollowed := true, recurses := true, apart := false }
def FnExactStateBytesSaid : Prop := fnExactStateBytesRow.holds Tryz.pinned (OpenSpec.ofChange fnExactStateBytesSpec)

/-- ITS FALSE NEIGHBOUR: 'it returns false'. Refute it at one input. -/
def fnExactStateBytesWrong : ChangeSpec := { name := "fnExactStateBytes", fn := fun _ => fun
  | [d] => { results := [.lit (.bool false)], args := [d] }
  | _ => none }
def FnExactStateBytesWrongFalsely : Prop := fnExactStateBytesRow.holds Tryz.pinned (OpenSpec.ofChange fnExactStateBytesWrong)

/-- 'laws.FnExactFit': WHATEVER THE INPUT: true; the input reads as it did. -/
def fnExactFitSpec : ChangeSpec := { name := "fnExactFit", fn := fun _ => fun
  | [d] => { results := [.lit (.bool true)], args := [d] }
  | _ => none }
def fnExactFitRow : OpenClaim := { program := "ythfhhldbglaieaagreat", sum := "17bf0170b106ff8250ac228358b13125cf442352912e4b77d7e247180a9238ce", func := "loop.example/g00661/laws.FnExactFit", spec := "fnExactFit", unfollowed := true, recurses := true, apart := false }
def FnExactFitSaid : Prop := fnExactFitRow.holds Tryz.pinned (OpenSpec.ofChange fnExactFitSpec)

/-- ITS FALSE NEIGHBOUR: 'it returns false'. Refute it at one input. -/
def fnExactFitWrong : ChangeSpec := { name := "fnExactFit", fn := fun _ => fun
  | [d] => { results := [.lit (.bool false)], args := [d] }
  | _ => none }
def FnExactFitWrongFalsely : Prop := fnExactFitRow.holds Tryz.pinned (OpenSpec.ofChange fnExactFitWrong)

/-- 'laws.FnExactLost': WHATEVER THE INPUT: true; the input reads as it did. -/
def fnExactLostSpec : ChangeSpec := { name := "fnExactLost", fn := fun _ => fun
  | [d] => { results := [.lit (.bool true)], args := [d] }
  | _ => none }
def fnExactLostRow : OpenClaim := { program := "ythfhhldbglaieaagreat", sum := "17bf0170b106ff8250ac228358b13125cf442352912e4b77d7e247180a9238ce", func := "loop.example/g00661/laws.FnExactLost", spec := "fnExactLost", inPlace := ["internal/bytealg.IndexByteString"], unfollowed := true, recurses := true, apart := false }
def FnExactLostSaid : Prop := fnExactLostRow.holds Tryz.pinned (OpenSpec.ofChange fnExactLostSpec)

/-- ITS FALSE NEIGHBOUR: 'it returns false'. Refute it at one input. -/
def fnExactLostWrong : ChangeSpec := { name := "fnExactLost", fn := fun _ => fun
  | [d] => { results := [.lit (.bool false)], args := [d] }
  | _ => none }
def FnExactLostWrongFalsely : Prop := fnExactLostRow.holds Tryz.pinned (OpenSpec.ofChange fnExactLostWrong)

/-- 'laws.FnExactStateRead': WHATEVER THE INPUT: true; the input reads as it did. -/
def fnExactStateReadSpec : ChangeSpec := { name := "fnExactStateRead", fn := fun _ => fun
  | [d] => { results := [.lit (.bool true)], args := [d] }
  | _ => none }
def fnExactStateReadRow : OpenClaim := { program := "ythfhhldbglaieaagreat", sum := "17bf0170b106ff8250ac228358b13125cf442352912e4b77d7e247180a9238ce", func := "loop.example/g00661/laws.FnExactStateRead", spec := "fnExactStateRead", inPlace := ["internal/bytealg.IndexByteString"], unfollowed := true, recurses := true, apart := false }
def FnExactStateReadSaid : Prop := fnExactStateReadRow.holds Tryz.pinned (OpenSpec.ofChange fnExactStateReadSpec)

/-- ITS FALSE NEIGHBOUR: 'it returns false'. Refute it at one input. -/
def fnExactStateReadWrong : ChangeSpec := { name := "fnExactStateRead", fn := fun _ => fun
  | [d] => { results := [.lit (.bool false)], args := [d] }
  | _ => none }
def FnExactStateReadWrongFalsely : Prop := fnExactStateReadRow.holds Tryz.pinned (OpenSpec.ofChange fnExactStateReadWrong)

/- THE SECOND FORM. 'bulk': how many values and letters a reading holds, each counted each time it is reached (what is shared counts as often as it is met; a slice's spare places count too). A statement '..UptoSaid' is the law's where the arguments, and the package variables that the reading takes, are together of bulk at most 1048576: NARROWER than '..Said'. Prove '..Said' where nothing that the law and all that it calls make is longer than what came in: it says more and counts as full. Else prove '..UptoSaid'. A law counts once. -/
mutual
def uptoBulk {H : Type} : DataW H → Nat
  | .lit (.string bytes) => bytes.length + 1
  | .lit _ => 1
  | .nil => 1
  | .ptr d => uptoBulk d + 1
  | .slice elems spare => uptoBulkAll elems + uptoBulkAll spare + 1
  | .agg parts => uptoBulkAll parts + 1
  | .iface _ d => uptoBulk d + 1
  | .map entries => uptoBulkEntries entries + 1
  | .held _ => 1
def uptoBulkAll {H : Type} : List (DataW H) → Nat
  | [] => 0
  | d :: r => uptoBulk d + uptoBulkAll r
def uptoBulkEntries {H : Type} : List (Lit × DataW H) → Nat
  | [] => 0
  | x :: r => uptoBulkEntry x + uptoBulkEntries r
def uptoBulkEntry {H : Type} : Lit × DataW H → Nat
  | (.string bytes, d) => bytes.length + uptoBulk d + 1
  | (_, d) => uptoBulk d + 1
 end
def uptoSmall : (H : Type) → List (DataW H) → Bool := fun _ ds => decide (uptoBulkAll ds ≤ 1048576)
def OpenSpec.upto (s : _root_.Go.ChangeSpec) : _root_.Go.OpenSpec := { _root_.Go.OpenSpec.ofChange s with cond := some uptoSmall }

/-- 'laws.FnExactWinOf', WHERE WHAT IT READS IS OF BULK AT MOST 1048576: true; the input reads as it did. -/
def fnExactWinOfUptoRow : OpenClaim := { program := "ythfhhldbglaieaagreat", sum := "17bf0170b106ff8250ac228358b13125cf442352912e4b77d7e247180a9238ce", func := "loop.example/g00661/laws.FnExactWinOf", spec := "fnExactWinOf", unfollowed := true, recurses := true, apart := false, narrowed := true }
def FnExactWinOfUptoSaid : Prop := fnExactWinOfUptoRow.holds Tryz.pinned (OpenSpec.upto fnExactWinOfSpec)

/-- 'laws.FnExactArea', WHERE WHAT IT READS IS OF BULK AT MOST 1048576: true; the input reads as it did. -/
def fnExactAreaUptoRow : OpenClaim := { program := "ythfhhldbglaieaagreat", sum := "17bf0170b106ff8250ac228358b13125cf442352912e4b77d7e247180a9238ce", func := "loop.example/g00661/laws.FnExactArea", spec := "fnExactArea", unfollowed := true, recurses := true, apart := false, narrowed := true }
def FnExactAreaUptoSaid : Prop := fnExactAreaUptoRow.holds Tryz.pinned (OpenSpec.upto fnExactAreaSpec)

/-- 'laws.FnExactStateOk', WHERE WHAT IT READS IS OF BULK AT MOST 1048576: true; the input reads as it did. -/
def fnExactStateOkUptoRow : OpenClaim := { program := "ythfhhldbglaieaagreat", sum := "17bf0170b106ff8250ac228358b13125cf442352912e4b77d7e247180a9238ce", func := "loop.example/g00661/laws.FnExactStateOk", spec := "fnExactStateOk", inPlace := ["internal/bytealg.IndexByteString"], unfollowed := true, recurses := true, apart := false, narrowed := true }
def FnExactStateOkUptoSaid : Prop := fnExactStateOkUptoRow.holds Tryz.pinned (OpenSpec.upto fnExactStateOkSpec)

/-- 'laws.FnExactStateNew', WHERE WHAT IT READS IS OF BULK AT MOST 1048576: true; the input reads as it did. -/
def fnExactStateNewUptoRow : OpenClaim := { program := "ythfhhldbglaieaagreat", sum := "17bf0170b106ff8250ac228358b13125cf442352912e4b77d7e247180a9238ce", func := "loop.example/g00661/laws.FnExactStateNew", spec := "fnExactStateNew", inPlace := ["internal/bytealg.IndexByteString"], unfollowed := true, recurses := true, apart := false, narrowed := true }
def FnExactStateNewUptoSaid : Prop := fnExactStateNewUptoRow.holds Tryz.pinned (OpenSpec.upto fnExactStateNewSpec)

/-- 'laws.FnExactStateBytes', WHERE WHAT IT READS IS OF BULK AT MOST 1048576: true; the input reads as it did. -/
def fnExactStateBytesUptoRow : OpenClaim := { program := "ythfhhldbglaieaagreat", sum := "17bf0170b106ff8250ac228358b13125cf442352912e4b77d7e247180a9238ce", func := "loop.example/g00661/laws.FnExactStateBytes", spec := "fnExactStateBytes", inPlace := ["internal/bytealg.IndexByteString"], unfollowed := true, recurses := true, apart := false, narrowed := true }
def FnExactStateBytesUptoSaid : Prop := fnExactStateBytesUptoRow.holds Tryz.pinned (OpenSpec.upto fnExactStateBytesSpec)

/-- 'laws.FnExactFit', WHERE WHAT IT READS IS OF BULK AT MOST 1048576: true; the input reads as it did. -/
def fnExactFitUptoRow : OpenClaim := { program := "ythfhhldbglaieaagreat", sum := "17bf0170b106ff8250ac228358b13125cf442352912e4b77d7e247180a9238ce", func := "loop.example/g00661/laws.FnExactFit", spec := "fnExactFit", unfollowed := true, recurses := true, apart := false, narrowed := true }
def FnExactFitUptoSaid : Prop := fnExactFitUptoRow.holds Tryz.pinned (OpenSpec.upto fnExactFitSpec)

/-- 'laws.FnExactLost', WHERE WHAT IT READS IS OF BULK AT MOST 1048576: true; the input reads as it did. -/
def fnExactLostUptoRow : OpenClaim := { program := "ythfhhldbglaieaagreat", sum := "17bf0170b106ff8250ac228358b13125cf442352912e4b77d7e247180a9238ce", func := "loop.example/g00661/laws.FnExactLost", spec := "fnExactLost", inPlace := ["internal/bytealg.IndexByteString"], unfollowed := true, recurses := true, apart := false, narrowed := true }
def FnExactLostUptoSaid : Prop := fnExactLostUptoRow.holds Tryz.pinned (OpenSpec.upto fnExactLostSpec)

/-- 'laws.FnExactStateRead', WHERE WHAT IT READS IS OF BULK AT MOST 1048576: true; the input reads as it did. -/
def fnExactStateReadUptoRow : OpenClaim := { program := "ythfhhldbglaieaagreat", sum := "17bf0170b106ff8250ac228358b13125cf442352912e4b77d7e247180a9238ce", func := "loop.example/g00661/laws.FnExactStateRead", spec := "fnExactStateRead", inPlace := ["internal/bytealg.IndexByteString"], unfollowed := true, recurses := true, apart := false, narrowed := true }
def FnExactStateReadUptoSaid : Prop := fnExactStateReadUptoRow.holds Tryz.pinned (OpenSpec.upto fnExactStateReadSpec)

end Rows
end Go.Proofs.YthfhhldbglaieaaGreat
