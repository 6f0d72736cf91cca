/-
  No cell of these rows narrows 'for every input' (looked for: loops, veiled, ifaces, maps, wideKeys, modest, calm, conditions, laid).
  DERIVED. THE GIVEN ROWS OF THIS SEAT. 3 by the template 'for every input the law returns true; each argument reads behind the call as it read before'; 0 by the template 'total and deterministic' (their statements: YtmomhohmknlmkaaGreatTotals.lean).
  GIVEN WITH THE SEED: the statements are not yours to turn. If you find one false, say at which input.
  Laid BY PROGRAM, IN A SANDBOX (cutbox-rows.mjs): the forced cells as the released guide's own fill.sh prints them over the translation 64c99af209e4c145… (all of the seat's roots in one cut). By AI agents, Wed Nov 11 2026. No macro, syntax, notation, axiom, sorry.
-/
import Derived.Test.YtmomhohmknlmkaaGreatChecked
import GoSem.Claim
import GoSem.ClaimJoined
import GoSem.ClaimMapViews
import Derived.JoinedTies
import Derived.KernelRfl
namespace Go.Proofs.YtmomhohmknlmkaaGreat
/- THE CELL 'sum', in the pinned program and in every row, IS THE sha256 OF THE DUMP (.gsa) THAT YtmomhohmknlmkaaGreatProg.lean LOADS. Nothing in Lean hashes anything: it is a label: what it is worth is what the hold of that sum in a sandbox is worth. -/
noncomputable def Tryz.pinned : Pinned := { name := "ytmomhohmknlmkaagreat", sum := "64c99af209e4c145bd74a2d3009c66af975e64b5fe29fe6ed6155837f0576410", checked := Tryz.checked }
namespace Rows
def none {H : Type} : Left H := { results := [], args := [] }

/-- 'laws.FnExactStateRead': WHATEVER THE INPUT: true; the input reads as it did. -/
def fnExactStateReadSpec : ChangeSpec := { name := "fnExactStateRead", fn := fun _ => fun
  | [d] => { results := [.lit (.bool true)], args := [d] }
  | _ => none }
def fnExactStateReadRow : OpenClaim := { program := "ytmomhohmknlmkaagreat", sum := "64c99af209e4c145bd74a2d3009c66af975e64b5fe29fe6ed6155837f0576410", func := "loop.example/g00661/laws.FnExactStateRead", spec := "fnExactStateRead", inPlace := ["internal/bytealg.IndexByteString"], unfollowed := true, recurses := true, apart := false }
def FnExactStateReadSaid : Prop := fnExactStateReadRow.holds Tryz.pinned (OpenSpec.ofChange fnExactStateReadSpec)

/-- ITS FALSE NEIGHBOUR: 'it returns false'. Refute it at one input. -/
def fnExactStateReadWrong : ChangeSpec := { name := "fnExactStateRead", fn := fun _ => fun
  | [d] => { results := [.lit (.bool false)], args := [d] }
  | _ => none }
def FnExactStateReadWrongFalsely : Prop := fnExactStateReadRow.holds Tryz.pinned (OpenSpec.ofChange fnExactStateReadWrong)

/-- 'laws.FnLost': WHATEVER THE INPUT: true; the input reads as it did. -/
def fnLostSpec : ChangeSpec := { name := "fnLost", fn := fun _ => fun
  | [d] => { results := [.lit (.bool true)], args := [d] }
  | _ => none }
def fnLostRow : OpenClaim := { program := "ytmomhohmknlmkaagreat", sum := "64c99af209e4c145bd74a2d3009c66af975e64b5fe29fe6ed6155837f0576410", func := "loop.example/g00661/laws.FnLost", spec := "fnLost", inPlace := ["internal/bytealg.IndexByteString"], unfollowed := true, recurses := true, apart := false }
def FnLostSaid : Prop := fnLostRow.holds Tryz.pinned (OpenSpec.ofChange fnLostSpec)

/-- ITS FALSE NEIGHBOUR: 'it returns false'. Refute it at one input. -/
def fnLostWrong : ChangeSpec := { name := "fnLost", fn := fun _ => fun
  | [d] => { results := [.lit (.bool false)], args := [d] }
  | _ => none }
def FnLostWrongFalsely : Prop := fnLostRow.holds Tryz.pinned (OpenSpec.ofChange fnLostWrong)

/-- 'laws.FnKill': WHATEVER THE INPUT: true; the input reads as it did. -/
def fnKillSpec : ChangeSpec := { name := "fnKill", fn := fun _ => fun
  | [d] => { results := [.lit (.bool true)], args := [d] }
  | _ => none }
def fnKillRow : OpenClaim := { program := "ytmomhohmknlmkaagreat", sum := "64c99af209e4c145bd74a2d3009c66af975e64b5fe29fe6ed6155837f0576410", func := "loop.example/g00661/laws.FnKill", spec := "fnKill", inPlace := ["internal/bytealg.IndexByteString", "slices.overlaps[int]"], unfollowed := true, recurses := true, apart := false }
def FnKillSaid : Prop := fnKillRow.holds Tryz.pinned (OpenSpec.ofChange fnKillSpec)

/-- ITS FALSE NEIGHBOUR: 'it returns false'. Refute it at one input. -/
def fnKillWrong : ChangeSpec := { name := "fnKill", fn := fun _ => fun
  | [d] => { results := [.lit (.bool false)], args := [d] }
  | _ => none }
def FnKillWrongFalsely : Prop := fnKillRow.holds Tryz.pinned (OpenSpec.ofChange fnKillWrong)

/- THE SECOND FORM. 'bulk': how many values and letters a reading holds, each counted each time it is reached (what is shared counts as often as it is met; a slice's spare places count too). A statement '..UptoSaid' is the law's where the arguments, and the package variables that the reading takes, are together of bulk at most 1048576: NARROWER than '..Said'. Prove '..Said' where nothing that the law and all that it calls make is longer than what came in: it says more and counts as full. Else prove '..UptoSaid'. A law counts once. -/
mutual
def uptoBulk {H : Type} : DataW H → Nat
  | .lit (.string bytes) => bytes.length + 1
  | .lit _ => 1
  | .nil => 1
  | .ptr d => uptoBulk d + 1
  | .slice elems spare => uptoBulkAll elems + uptoBulkAll spare + 1
  | .agg parts => uptoBulkAll parts + 1
  | .iface _ d => uptoBulk d + 1
  | .map entries => uptoBulkEntries entries + 1
  | .held _ => 1
def uptoBulkAll {H : Type} : List (DataW H) → Nat
  | [] => 0
  | d :: r => uptoBulk d + uptoBulkAll r
def uptoBulkEntries {H : Type} : List (Lit × DataW H) → Nat
  | [] => 0
  | x :: r => uptoBulkEntry x + uptoBulkEntries r
def uptoBulkEntry {H : Type} : Lit × DataW H → Nat
  | (.string bytes, d) => bytes.length + uptoBulk d + 1
  | (_, d) => uptoBulk d + 1
 end
def uptoSmall : (H : Type) → List (DataW H) → Bool := fun _ ds => decide (uptoBulkAll ds ≤ 1048576)
def OpenSpec.upto (s : _root_.Go.ChangeSpec) : _root_.Go.OpenSpec := { _root_.Go.OpenSpec.ofChange s with cond := some uptoSmall }

/-- 'laws.FnExactStateRead', WHERE WHAT IT READS IS OF BULK AT MOST 1048576: true; the input reads as it did. -/
def fnExactStateReadUptoRow : OpenClaim := { program := "ytmomhohmknlmkaagreat", sum := "64c99af209e4c145bd74a2d3009c66af975e64b5fe29fe6ed6155837f0576410", func := "loop.example/g00661/laws.FnExactStateRead", spec := "fnExactStateRead", inPlace := ["internal/bytealg.IndexByteString"], unfollowed := true, recurses := true, apart := false, narrowed := true }
def FnExactStateReadUptoSaid : Prop := fnExactStateReadUptoRow.holds Tryz.pinned (OpenSpec.upto fnExactStateReadSpec)

/-- 'laws.FnLost', WHERE WHAT IT READS IS OF BULK AT MOST 1048576: true; the input reads as it did. -/
def fnLostUptoRow : OpenClaim := { program := "ytmomhohmknlmkaagreat", sum := "64c99af209e4c145bd74a2d3009c66af975e64b5fe29fe6ed6155837f0576410", func := "loop.example/g00661/laws.FnLost", spec := "fnLost", inPlace := ["internal/bytealg.IndexByteString"], unfollowed := true, recurses := true, apart := false, narrowed := true }
def FnLostUptoSaid : Prop := fnLostUptoRow.holds Tryz.pinned (OpenSpec.upto fnLostSpec)

/-- 'laws.FnKill', WHERE WHAT IT READS IS OF BULK AT MOST 1048576: true; the input reads as it did. -/
def fnKillUptoRow : OpenClaim := { program := "ytmomhohmknlmkaagreat", sum := "64c99af209e4c145bd74a2d3009c66af975e64b5fe29fe6ed6155837f0576410", func := "loop.example/g00661/laws.FnKill", spec := "fnKill", inPlace := ["internal/bytealg.IndexByteString", "slices.overlaps[int]"], unfollowed := true, recurses := true, apart := false, narrowed := true }
def FnKillUptoSaid : Prop := fnKillUptoRow.holds Tryz.pinned (OpenSpec.upto fnKillSpec)

end Rows
end Go.Proofs.YtmomhohmknlmkaaGreat
