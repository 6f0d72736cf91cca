/-
  No cell of these rows narrows 'for every input' (looked for: loops, veiled, ifaces, maps, wideKeys, modest, calm, conditions, laid).
  DERIVED. THE GIVEN ROWS OF THIS SEAT. 8 by the template 'for every input the law returns true; each argument reads behind the call as it read before'; 0 by the template 'total and deterministic' (their statements: YtjmegoiclgancaaGreatTotals.lean).
  GIVEN WITH THE SEED: the statements are not yours to turn. If you find one false, say at which input.
  Laid BY PROGRAM, IN A SANDBOX (cutbox-rows.mjs): the forced cells as the released guide's own fill.sh prints them over the translation ae5be5e58b1f842c… (all of the seat's roots in one cut). By AI agents, Wed Nov 11 2026. No macro, syntax, notation, axiom, sorry.
-/
import Derived.Test.YtjmegoiclgancaaGreatChecked
import GoSem.Claim
import GoSem.ClaimJoined
import GoSem.ClaimMapViews
import Derived.JoinedTies
import Derived.KernelRfl
namespace Go.Proofs.YtjmegoiclgancaaGreat
/- THE CELL 'sum', in the pinned program and in every row, IS THE sha256 OF THE DUMP (.gsa) THAT YtjmegoiclgancaaGreatProg.lean LOADS. Nothing in Lean hashes anything: it is a label: what it is worth is what the hold of that sum in a sandbox is worth. -/
noncomputable def Tryz.pinned : Pinned := { name := "ytjmegoiclgancaagreat", sum := "ae5be5e58b1f842c7fb4a2aaf63dba8a744ee2c25ad03ef52774eca96e3a22e9", checked := Tryz.checked }
namespace Rows
def none {H : Type} : Left H := { results := [], args := [] }

/-- 'laws.FnExactTermRead': WHATEVER THE INPUT: true; the input reads as it did. -/
def fnExactTermReadSpec : ChangeSpec := { name := "fnExactTermRead", fn := fun _ => fun
  | [d] => { results := [.lit (.bool true)], args := [d] }
  | _ => none }
def fnExactTermReadRow : OpenClaim := { program := "ytjmegoiclgancaagreat", sum := "ae5be5e58b1f842c7fb4a2aaf63dba8a744ee2c25ad03ef52774eca96e3a22e9", func := "loop.example/g00661/laws.FnExactTermRead", spec := "fnExactTermRead", unfollowed := true, recurses := true, apart := false }
def FnExactTermReadSaid : Prop := fnExactTermReadRow.holds Tryz.pinned (OpenSpec.ofChange fnExactTermReadSpec)

/-- ITS FALSE NEIGHBOUR: 'it returns false'. Refute it at one input. -/
def fnExactTermReadWrong : ChangeSpec := { name := "fnExactTermRead", fn := fun _ => fun
  | [d] => { results := [.lit (.bool false)], args := [d] }
  | _ => none }
def FnExactTermReadWrongFalsely : Prop := fnExactTermReadRow.holds Tryz.pinned (OpenSpec.ofChange fnExactTermReadWrong)

/-- 'laws.FnExactScrEsc': WHATEVER THE INPUT: true; the input reads as it did. -/
def fnExactScrEscSpec : ChangeSpec := { name := "fnExactScrEsc", fn := fun _ => fun
  | [d1, d2] => { results := [.lit (.bool true)], args := [d1, d2] }
  | _ => none }
def fnExactScrEscRow : OpenClaim := { program := "ytjmegoiclgancaagreat", sum := "ae5be5e58b1f842c7fb4a2aaf63dba8a744ee2c25ad03ef52774eca96e3a22e9", func := "loop.example/g00661/laws.FnExactScrEsc", spec := "fnExactScrEsc", inPlace := ["slices.overlaps[int]"], unfollowed := true, recurses := true, apart := false }
def FnExactScrEscSaid : Prop := fnExactScrEscRow.holds Tryz.pinned (OpenSpec.ofChange fnExactScrEscSpec)

/-- ITS FALSE NEIGHBOUR: 'it returns false'. Refute it at one input. -/
def fnExactScrEscWrong : ChangeSpec := { name := "fnExactScrEsc", fn := fun _ => fun
  | [d1, d2] => { results := [.lit (.bool false)], args := [d1, d2] }
  | _ => none }
def FnExactScrEscWrongFalsely : Prop := fnExactScrEscRow.holds Tryz.pinned (OpenSpec.ofChange fnExactScrEscWrong)

/-- 'laws.FnScreen': WHATEVER THE INPUT: true; the input reads as it did. -/
def fnScreenSpec : ChangeSpec := { name := "fnScreen", fn := fun _ => fun
  | [d] => { results := [.lit (.bool true)], args := [d] }
  | _ => none }
def fnScreenRow : OpenClaim := { program := "ytjmegoiclgancaagreat", sum := "ae5be5e58b1f842c7fb4a2aaf63dba8a744ee2c25ad03ef52774eca96e3a22e9", func := "loop.example/g00661/laws.FnScreen", spec := "fnScreen", inPlace := ["slices.overlaps[int]"], unfollowed := true, recurses := true, apart := false }
def FnScreenSaid : Prop := fnScreenRow.holds Tryz.pinned (OpenSpec.ofChange fnScreenSpec)

/-- ITS FALSE NEIGHBOUR: 'it returns false'. Refute it at one input. -/
def fnScreenWrong : ChangeSpec := { name := "fnScreen", fn := fun _ => fun
  | [d] => { results := [.lit (.bool false)], args := [d] }
  | _ => none }
def FnScreenWrongFalsely : Prop := fnScreenRow.holds Tryz.pinned (OpenSpec.ofChange fnScreenWrong)

/-- 'laws.FnExactScrCsi': WHATEVER THE INPUT: true; the input reads as it did. -/
def fnExactScrCsiSpec : ChangeSpec := { name := "fnExactScrCsi", fn := fun _ => fun
  | [d1, d2, d3, d4] => { results := [.lit (.bool true)], args := [d1, d2, d3, d4] }
  | _ => none }
def fnExactScrCsiRow : OpenClaim := { program := "ytjmegoiclgancaagreat", sum := "ae5be5e58b1f842c7fb4a2aaf63dba8a744ee2c25ad03ef52774eca96e3a22e9", func := "loop.example/g00661/laws.FnExactScrCsi", spec := "fnExactScrCsi", unfollowed := true, recurses := true, apart := false }
def FnExactScrCsiSaid : Prop := fnExactScrCsiRow.holds Tryz.pinned (OpenSpec.ofChange fnExactScrCsiSpec)

/-- ITS FALSE NEIGHBOUR: 'it returns false'. Refute it at one input. -/
def fnExactScrCsiWrong : ChangeSpec := { name := "fnExactScrCsi", fn := fun _ => fun
  | [d1, d2, d3, d4] => { results := [.lit (.bool false)], args := [d1, d2, d3, d4] }
  | _ => none }
def FnExactScrCsiWrongFalsely : Prop := fnExactScrCsiRow.holds Tryz.pinned (OpenSpec.ofChange fnExactScrCsiWrong)

/-- 'laws.FnTerm': WHATEVER THE INPUT: true; the input reads as it did. -/
def fnTermSpec : ChangeSpec := { name := "fnTerm", fn := fun _ => fun
  | [d] => { results := [.lit (.bool true)], args := [d] }
  | _ => none }
def fnTermRow : OpenClaim := { program := "ytjmegoiclgancaagreat", sum := "ae5be5e58b1f842c7fb4a2aaf63dba8a744ee2c25ad03ef52774eca96e3a22e9", func := "loop.example/g00661/laws.FnTerm", spec := "fnTerm", unfollowed := true, recurses := true, apart := false }
def FnTermSaid : Prop := fnTermRow.holds Tryz.pinned (OpenSpec.ofChange fnTermSpec)

/-- ITS FALSE NEIGHBOUR: 'it returns false'. Refute it at one input. -/
def fnTermWrong : ChangeSpec := { name := "fnTerm", fn := fun _ => fun
  | [d] => { results := [.lit (.bool false)], args := [d] }
  | _ => none }
def FnTermWrongFalsely : Prop := fnTermRow.holds Tryz.pinned (OpenSpec.ofChange fnTermWrong)

/-- 'laws.FnExactScrAct': WHATEVER THE INPUT: true; the input reads as it did. -/
def fnExactScrActSpec : ChangeSpec := { name := "fnExactScrAct", fn := fun _ => fun
  | [d1, d2] => { results := [.lit (.bool true)], args := [d1, d2] }
  | _ => none }
def fnExactScrActRow : OpenClaim := { program := "ytjmegoiclgancaagreat", sum := "ae5be5e58b1f842c7fb4a2aaf63dba8a744ee2c25ad03ef52774eca96e3a22e9", func := "loop.example/g00661/laws.FnExactScrAct", spec := "fnExactScrAct", inPlace := ["slices.overlaps[int]"], unfollowed := true, recurses := true, apart := false }
def FnExactScrActSaid : Prop := fnExactScrActRow.holds Tryz.pinned (OpenSpec.ofChange fnExactScrActSpec)

/-- ITS FALSE NEIGHBOUR: 'it returns false'. Refute it at one input. -/
def fnExactScrActWrong : ChangeSpec := { name := "fnExactScrAct", fn := fun _ => fun
  | [d1, d2] => { results := [.lit (.bool false)], args := [d1, d2] }
  | _ => none }
def FnExactScrActWrongFalsely : Prop := fnExactScrActRow.holds Tryz.pinned (OpenSpec.ofChange fnExactScrActWrong)

/-- 'laws.FnFeed': WHATEVER THE INPUT: true; the input reads as it did. -/
def fnFeedSpec : ChangeSpec := { name := "fnFeed", fn := fun _ => fun
  | [d] => { results := [.lit (.bool true)], args := [d] }
  | _ => none }
def fnFeedRow : OpenClaim := { program := "ytjmegoiclgancaagreat", sum := "ae5be5e58b1f842c7fb4a2aaf63dba8a744ee2c25ad03ef52774eca96e3a22e9", func := "loop.example/g00661/laws.FnFeed", spec := "fnFeed", inPlace := ["slices.overlaps[int]"], unfollowed := true, recurses := true, apart := false }
def FnFeedSaid : Prop := fnFeedRow.holds Tryz.pinned (OpenSpec.ofChange fnFeedSpec)

/-- ITS FALSE NEIGHBOUR: 'it returns false'. Refute it at one input. -/
def fnFeedWrong : ChangeSpec := { name := "fnFeed", fn := fun _ => fun
  | [d] => { results := [.lit (.bool false)], args := [d] }
  | _ => none }
def FnFeedWrongFalsely : Prop := fnFeedRow.holds Tryz.pinned (OpenSpec.ofChange fnFeedWrong)

/-- 'laws.FnExactTermFeed': WHATEVER THE INPUT: true; the input reads as it did. -/
def fnExactTermFeedSpec : ChangeSpec := { name := "fnExactTermFeed", fn := fun _ => fun
  | [d1, d2] => { results := [.lit (.bool true)], args := [d1, d2] }
  | _ => none }
def fnExactTermFeedRow : OpenClaim := { program := "ytjmegoiclgancaagreat", sum := "ae5be5e58b1f842c7fb4a2aaf63dba8a744ee2c25ad03ef52774eca96e3a22e9", func := "loop.example/g00661/laws.FnExactTermFeed", spec := "fnExactTermFeed", inPlace := ["slices.overlaps[int]"], unfollowed := true, recurses := true, apart := false }
def FnExactTermFeedSaid : Prop := fnExactTermFeedRow.holds Tryz.pinned (OpenSpec.ofChange fnExactTermFeedSpec)

/-- ITS FALSE NEIGHBOUR: 'it returns false'. Refute it at one input. -/
def fnExactTermFeedWrong : ChangeSpec := { name := "fnExactTermFeed", fn := fun _ => fun
  | [d1, d2] => { results := [.lit (.bool false)], args := [d1, d2] }
  | _ => none }
def FnExactTermFeedWrongFalsely : Prop := fnExactTermFeedRow.holds Tryz.pinned (OpenSpec.ofChange fnExactTermFeedWrong)

/- THE SECOND FORM. 'bulk': how many values and letters a reading holds, each counted each time it is reached (what is shared counts as often as it is met; a slice's spare places count too). A statement '..UptoSaid' is the law's where the arguments, and the package variables that the reading takes, are together of bulk at most 1048576: NARROWER than '..Said'. Prove '..Said' where nothing that the law and all that it calls make is longer than what came in: it says more and counts as full. Else prove '..UptoSaid'. A law counts once. -/
mutual
def uptoBulk {H : Type} : DataW H → Nat
  | .lit (.string bytes) => bytes.length + 1
  | .lit _ => 1
  | .nil => 1
  | .ptr d => uptoBulk d + 1
  | .slice elems spare => uptoBulkAll elems + uptoBulkAll spare + 1
  | .agg parts => uptoBulkAll parts + 1
  | .iface _ d => uptoBulk d + 1
  | .map entries => uptoBulkEntries entries + 1
  | .held _ => 1
def uptoBulkAll {H : Type} : List (DataW H) → Nat
  | [] => 0
  | d :: r => uptoBulk d + uptoBulkAll r
def uptoBulkEntries {H : Type} : List (Lit × DataW H) → Nat
  | [] => 0
  | x :: r => uptoBulkEntry x + uptoBulkEntries r
def uptoBulkEntry {H : Type} : Lit × DataW H → Nat
  | (.string bytes, d) => bytes.length + uptoBulk d + 1
  | (_, d) => uptoBulk d + 1
 end
def uptoSmall : (H : Type) → List (DataW H) → Bool := fun _ ds => decide (uptoBulkAll ds ≤ 1048576)
def OpenSpec.upto (s : _root_.Go.ChangeSpec) : _root_.Go.OpenSpec := { _root_.Go.OpenSpec.ofChange s with cond := some uptoSmall }

/-- 'laws.FnExactTermRead', WHERE WHAT IT READS IS OF BULK AT MOST 1048576: true; the input reads as it did. -/
def fnExactTermReadUptoRow : OpenClaim := { program := "ytjmegoiclgancaagreat", sum := "ae5be5e58b1f842c7fb4a2aaf63dba8a744ee2c25ad03ef52774eca96e3a22e9", func := "loop.example/g00661/laws.FnExactTermRead", spec := "fnExactTermRead", unfollowed := true, recurses := true, apart := false, narrowed := true }
def FnExactTermReadUptoSaid : Prop := fnExactTermReadUptoRow.holds Tryz.pinned (OpenSpec.upto fnExactTermReadSpec)

/-- 'laws.FnExactScrEsc', WHERE WHAT IT READS IS OF BULK AT MOST 1048576: true; the input reads as it did. -/
def fnExactScrEscUptoRow : OpenClaim := { program := "ytjmegoiclgancaagreat", sum := "ae5be5e58b1f842c7fb4a2aaf63dba8a744ee2c25ad03ef52774eca96e3a22e9", func := "loop.example/g00661/laws.FnExactScrEsc", spec := "fnExactScrEsc", inPlace := ["slices.overlaps[int]"], unfollowed := true, recurses := true, apart := false, narrowed := true }
def FnExactScrEscUptoSaid : Prop := fnExactScrEscUptoRow.holds Tryz.pinned (OpenSpec.upto fnExactScrEscSpec)

/-- 'laws.FnScreen', WHERE WHAT IT READS IS OF BULK AT MOST 1048576: true; the input reads as it did. -/
def fnScreenUptoRow : OpenClaim := { program := "ytjmegoiclgancaagreat", sum := "ae5be5e58b1f842c7fb4a2aaf63dba8a744ee2c25ad03ef52774eca96e3a22e9", func := "loop.example/g00661/laws.FnScreen", spec := "fnScreen", inPlace := ["slices.overlaps[int]"], unfollowed := true, recurses := true, apart := false, narrowed := true }
def FnScreenUptoSaid : Prop := fnScreenUptoRow.holds Tryz.pinned (OpenSpec.upto fnScreenSpec)

/-- 'laws.FnExactScrCsi', WHERE WHAT IT READS IS OF BULK AT MOST 1048576: true; the input reads as it did. -/
def fnExactScrCsiUptoRow : OpenClaim := { program := "ytjmegoiclgancaagreat", sum := "ae5be5e58b1f842c7fb4a2aaf63dba8a744ee2c25ad03ef52774eca96e3a22e9", func := "loop.example/g00661/laws.FnExactScrCsi", spec := "fnExactScrCsi", unfollowed := true, recurses := true, apart := false, narrowed := true }
def FnExactScrCsiUptoSaid : Prop := fnExactScrCsiUptoRow.holds Tryz.pinned (OpenSpec.upto fnExactScrCsiSpec)

/-- 'laws.FnTerm', WHERE WHAT IT READS IS OF BULK AT MOST 1048576: true; the input reads as it did. -/
def fnTermUptoRow : OpenClaim := { program := "ytjmegoiclgancaagreat", sum := "ae5be5e58b1f842c7fb4a2aaf63dba8a744ee2c25ad03ef52774eca96e3a22e9", func := "loop.example/g00661/laws.FnTerm", spec := "fnTerm", unfollowed := true, recurses := true, apart := false, narrowed := true }
def FnTermUptoSaid : Prop := fnTermUptoRow.holds Tryz.pinned (OpenSpec.upto fnTermSpec)

/-- 'laws.FnExactScrAct', WHERE WHAT IT READS IS OF BULK AT MOST 1048576: true; the input reads as it did. -/
def fnExactScrActUptoRow : OpenClaim := { program := "ytjmegoiclgancaagreat", sum := "ae5be5e58b1f842c7fb4a2aaf63dba8a744ee2c25ad03ef52774eca96e3a22e9", func := "loop.example/g00661/laws.FnExactScrAct", spec := "fnExactScrAct", inPlace := ["slices.overlaps[int]"], unfollowed := true, recurses := true, apart := false, narrowed := true }
def FnExactScrActUptoSaid : Prop := fnExactScrActUptoRow.holds Tryz.pinned (OpenSpec.upto fnExactScrActSpec)

/-- 'laws.FnFeed', WHERE WHAT IT READS IS OF BULK AT MOST 1048576: true; the input reads as it did. -/
def fnFeedUptoRow : OpenClaim := { program := "ytjmegoiclgancaagreat", sum := "ae5be5e58b1f842c7fb4a2aaf63dba8a744ee2c25ad03ef52774eca96e3a22e9", func := "loop.example/g00661/laws.FnFeed", spec := "fnFeed", inPlace := ["slices.overlaps[int]"], unfollowed := true, recurses := true, apart := false, narrowed := true }
def FnFeedUptoSaid : Prop := fnFeedUptoRow.holds Tryz.pinned (OpenSpec.upto fnFeedSpec)

/-- 'laws.FnExactTermFeed', WHERE WHAT IT READS IS OF BULK AT MOST 1048576: true; the input reads as it did. -/
def fnExactTermFeedUptoRow : OpenClaim := { program := "ytjmegoiclgancaagreat", sum := "ae5be5e58b1f842c7fb4a2aaf63dba8a744ee2c25ad03ef52774eca96e3a22e9", func := "loop.example/g00661/laws.FnExactTermFeed", spec := "fnExactTermFeed", inPlace := ["slices.overlaps[int]"], unfollowed := true, recurses := true, apart := false, narrowed := true }
def FnExactTermFeedUptoSaid : Prop := fnExactTermFeedUptoRow.holds Tryz.pinned (OpenSpec.upto fnExactTermFeedSpec)

end Rows
end Go.Proofs.YtjmegoiclgancaaGreat
