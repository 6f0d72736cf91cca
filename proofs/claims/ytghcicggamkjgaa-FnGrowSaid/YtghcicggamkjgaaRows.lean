/-
  No cell of these rows narrows 'for every input' (looked for: loops, veiled, ifaces, maps, wideKeys, modest, calm, conditions, laid).
  DERIVED. THE GIVEN ROWS OF THIS SEAT. 14 by the template 'for every input the law returns true; each argument reads behind the call as it read before'; 0 by the template 'total and deterministic' (their statements: YtghcicggamkjgaaTotals.lean).
  GIVEN WITH THE SEED: the statements are not yours to turn. If you find one false, say at which input.
  Laid BY PROGRAM, IN A SANDBOX (cutbox-rows.mjs): the forced cells as the released guide's own fill.sh prints them over the translation 6f91790fb1a8d9f5… (all of the seat's roots in one cut). By AI agents, Wed Nov 11 2026. No macro, syntax, notation, axiom, sorry.
-/
import Derived.Test.YtghcicggamkjgaaChecked
import GoSem.Claim
import GoSem.ClaimJoined
import GoSem.ClaimMapViews
import Derived.JoinedTies
import Derived.KernelRfl
namespace Go.Proofs.Ytghcicggamkjgaa
/- THE CELL 'sum', in the pinned program and in every row, IS THE sha256 OF THE DUMP (.gsa) THAT YtghcicggamkjgaaProg.lean LOADS. Nothing in Lean hashes anything: it is a label: what it is worth is what the hold of that sum in a sandbox is worth. -/
noncomputable def Try.pinned : Pinned := { name := "ytghcicggamkjgaa", sum := "6f91790fb1a8d9f5a250b9468cb043f8ad0d02cb2da8e20b9d130e24a86ce990", checked := Try.checked }
namespace Rows
def none {H : Type} : Left H := { results := [], args := [] }

/-- 'laws.FnExactTreeOk': WHATEVER THE INPUT: true; the input reads as it did. -/
def fnExactTreeOkSpec : ChangeSpec := { name := "fnExactTreeOk", fn := fun _ => fun
  | [d] => { results := [.lit (.bool true)], args := [d] }
  | _ => none }
def fnExactTreeOkRow : OpenClaim := { program := "ytghcicggamkjgaa", sum := "6f91790fb1a8d9f5a250b9468cb043f8ad0d02cb2da8e20b9d130e24a86ce990", func := "loop.example/g00661/laws.FnExactTreeOk", spec := "fnExactTreeOk", recurses := true, apart := false }
def FnExactTreeOkSaid : Prop := fnExactTreeOkRow.holds Try.pinned (OpenSpec.ofChange fnExactTreeOkSpec)

/-- ITS FALSE NEIGHBOUR: 'it returns false'. Refute it at one input. -/
def fnExactTreeOkWrong : ChangeSpec := { name := "fnExactTreeOk", fn := fun _ => fun
  | [d] => { results := [.lit (.bool false)], args := [d] }
  | _ => none }
def FnExactTreeOkWrongFalsely : Prop := fnExactTreeOkRow.holds Try.pinned (OpenSpec.ofChange fnExactTreeOkWrong)

/-- 'laws.FnExactAfter': WHATEVER THE INPUT: true; the input reads as it did. -/
def fnExactAfterSpec : ChangeSpec := { name := "fnExactAfter", fn := fun _ => fun
  | [d1, d2] => { results := [.lit (.bool true)], args := [d1, d2] }
  | _ => none }
def fnExactAfterRow : OpenClaim := { program := "ytghcicggamkjgaa", sum := "6f91790fb1a8d9f5a250b9468cb043f8ad0d02cb2da8e20b9d130e24a86ce990", func := "loop.example/g00661/laws.FnExactAfter", spec := "fnExactAfter", recurses := true, apart := false }
def FnExactAfterSaid : Prop := fnExactAfterRow.holds Try.pinned (OpenSpec.ofChange fnExactAfterSpec)

/-- ITS FALSE NEIGHBOUR: 'it returns false'. Refute it at one input. -/
def fnExactAfterWrong : ChangeSpec := { name := "fnExactAfter", fn := fun _ => fun
  | [d1, d2] => { results := [.lit (.bool false)], args := [d1, d2] }
  | _ => none }
def FnExactAfterWrongFalsely : Prop := fnExactAfterRow.holds Try.pinned (OpenSpec.ofChange fnExactAfterWrong)

/-- 'laws.FnExactLeaves': WHATEVER THE INPUT: true; the input reads as it did. -/
def fnExactLeavesSpec : ChangeSpec := { name := "fnExactLeaves", fn := fun _ => fun
  | [d] => { results := [.lit (.bool true)], args := [d] }
  | _ => none }
def fnExactLeavesRow : OpenClaim := { program := "ytghcicggamkjgaa", sum := "6f91790fb1a8d9f5a250b9468cb043f8ad0d02cb2da8e20b9d130e24a86ce990", func := "loop.example/g00661/laws.FnExactLeaves", spec := "fnExactLeaves", recurses := true, apart := false }
def FnExactLeavesSaid : Prop := fnExactLeavesRow.holds Try.pinned (OpenSpec.ofChange fnExactLeavesSpec)

/-- ITS FALSE NEIGHBOUR: 'it returns false'. Refute it at one input. -/
def fnExactLeavesWrong : ChangeSpec := { name := "fnExactLeaves", fn := fun _ => fun
  | [d] => { results := [.lit (.bool false)], args := [d] }
  | _ => none }
def FnExactLeavesWrongFalsely : Prop := fnExactLeavesRow.holds Try.pinned (OpenSpec.ofChange fnExactLeavesWrong)

/-- 'laws.FnExactSwap': WHATEVER THE INPUT: true; the input reads as it did. -/
def fnExactSwapSpec : ChangeSpec := { name := "fnExactSwap", fn := fun _ => fun
  | [d1, d2, d3] => { results := [.lit (.bool true)], args := [d1, d2, d3] }
  | _ => none }
def fnExactSwapRow : OpenClaim := { program := "ytghcicggamkjgaa", sum := "6f91790fb1a8d9f5a250b9468cb043f8ad0d02cb2da8e20b9d130e24a86ce990", func := "loop.example/g00661/laws.FnExactSwap", spec := "fnExactSwap", unfollowed := true, recurses := true, apart := false }
def FnExactSwapSaid : Prop := fnExactSwapRow.holds Try.pinned (OpenSpec.ofChange fnExactSwapSpec)

/-- ITS FALSE NEIGHBOUR: 'it returns false'. Refute it at one input. -/
def fnExactSwapWrong : ChangeSpec := { name := "fnExactSwap", fn := fun _ => fun
  | [d1, d2, d3] => { results := [.lit (.bool false)], args := [d1, d2, d3] }
  | _ => none }
def FnExactSwapWrongFalsely : Prop := fnExactSwapRow.holds Try.pinned (OpenSpec.ofChange fnExactSwapWrong)

/-- 'laws.FnExactCut': WHATEVER THE INPUT: true; the input reads as it did. -/
def fnExactCutSpec : ChangeSpec := { name := "fnExactCut", fn := fun _ => fun
  | [d1, d2] => { results := [.lit (.bool true)], args := [d1, d2] }
  | _ => none }
def fnExactCutRow : OpenClaim := { program := "ytghcicggamkjgaa", sum := "6f91790fb1a8d9f5a250b9468cb043f8ad0d02cb2da8e20b9d130e24a86ce990", func := "loop.example/g00661/laws.FnExactCut", spec := "fnExactCut", unfollowed := true, recurses := true, apart := false }
def FnExactCutSaid : Prop := fnExactCutRow.holds Try.pinned (OpenSpec.ofChange fnExactCutSpec)

/-- ITS FALSE NEIGHBOUR: 'it returns false'. Refute it at one input. -/
def fnExactCutWrong : ChangeSpec := { name := "fnExactCut", fn := fun _ => fun
  | [d1, d2] => { results := [.lit (.bool false)], args := [d1, d2] }
  | _ => none }
def FnExactCutWrongFalsely : Prop := fnExactCutRow.holds Try.pinned (OpenSpec.ofChange fnExactCutWrong)

/-- 'laws.FnExactPlaceOf': WHATEVER THE INPUT: true; the input reads as it did. -/
def fnExactPlaceOfSpec : ChangeSpec := { name := "fnExactPlaceOf", fn := fun _ => fun
  | [d1, d2, d3, d4] => { results := [.lit (.bool true)], args := [d1, d2, d3, d4] }
  | _ => none }
def fnExactPlaceOfRow : OpenClaim := { program := "ytghcicggamkjgaa", sum := "6f91790fb1a8d9f5a250b9468cb043f8ad0d02cb2da8e20b9d130e24a86ce990", func := "loop.example/g00661/laws.FnExactPlaceOf", spec := "fnExactPlaceOf", unfollowed := true, recurses := true, apart := false }
def FnExactPlaceOfSaid : Prop := fnExactPlaceOfRow.holds Try.pinned (OpenSpec.ofChange fnExactPlaceOfSpec)

/-- ITS FALSE NEIGHBOUR: 'it returns false'. Refute it at one input. -/
def fnExactPlaceOfWrong : ChangeSpec := { name := "fnExactPlaceOf", fn := fun _ => fun
  | [d1, d2, d3, d4] => { results := [.lit (.bool false)], args := [d1, d2, d3, d4] }
  | _ => none }
def FnExactPlaceOfWrongFalsely : Prop := fnExactPlaceOfRow.holds Try.pinned (OpenSpec.ofChange fnExactPlaceOfWrong)

/-- 'laws.FnTree': WHATEVER THE INPUT: true; the input reads as it did. -/
def fnTreeSpec : ChangeSpec := { name := "fnTree", fn := fun _ => fun
  | [d] => { results := [.lit (.bool true)], args := [d] }
  | _ => none }
def fnTreeRow : OpenClaim := { program := "ytghcicggamkjgaa", sum := "6f91790fb1a8d9f5a250b9468cb043f8ad0d02cb2da8e20b9d130e24a86ce990", func := "loop.example/g00661/laws.FnTree", spec := "fnTree", unfollowed := true, recurses := true, apart := false }
def FnTreeSaid : Prop := fnTreeRow.holds Try.pinned (OpenSpec.ofChange fnTreeSpec)

/-- ITS FALSE NEIGHBOUR: 'it returns false'. Refute it at one input. -/
def fnTreeWrong : ChangeSpec := { name := "fnTree", fn := fun _ => fun
  | [d] => { results := [.lit (.bool false)], args := [d] }
  | _ => none }
def FnTreeWrongFalsely : Prop := fnTreeRow.holds Try.pinned (OpenSpec.ofChange fnTreeWrong)

/-- 'laws.FnExactBeside': WHATEVER THE INPUT: true; the input reads as it did. -/
def fnExactBesideSpec : ChangeSpec := { name := "fnExactBeside", fn := fun _ => fun
  | [d1, d2, d3, d4, d5] => { results := [.lit (.bool true)], args := [d1, d2, d3, d4, d5] }
  | _ => none }
def fnExactBesideRow : OpenClaim := { program := "ytghcicggamkjgaa", sum := "6f91790fb1a8d9f5a250b9468cb043f8ad0d02cb2da8e20b9d130e24a86ce990", func := "loop.example/g00661/laws.FnExactBeside", spec := "fnExactBeside", unfollowed := true, recurses := true, apart := false }
def FnExactBesideSaid : Prop := fnExactBesideRow.holds Try.pinned (OpenSpec.ofChange fnExactBesideSpec)

/-- ITS FALSE NEIGHBOUR: 'it returns false'. Refute it at one input. -/
def fnExactBesideWrong : ChangeSpec := { name := "fnExactBeside", fn := fun _ => fun
  | [d1, d2, d3, d4, d5] => { results := [.lit (.bool false)], args := [d1, d2, d3, d4, d5] }
  | _ => none }
def FnExactBesideWrongFalsely : Prop := fnExactBesideRow.holds Try.pinned (OpenSpec.ofChange fnExactBesideWrong)

/-- 'laws.FnExactPlaces': WHATEVER THE INPUT: true; the input reads as it did. -/
def fnExactPlacesSpec : ChangeSpec := { name := "fnExactPlaces", fn := fun _ => fun
  | [d1, d2, d3] => { results := [.lit (.bool true)], args := [d1, d2, d3] }
  | _ => none }
def fnExactPlacesRow : OpenClaim := { program := "ytghcicggamkjgaa", sum := "6f91790fb1a8d9f5a250b9468cb043f8ad0d02cb2da8e20b9d130e24a86ce990", func := "loop.example/g00661/laws.FnExactPlaces", spec := "fnExactPlaces", unfollowed := true, recurses := true, apart := false }
def FnExactPlacesSaid : Prop := fnExactPlacesRow.holds Try.pinned (OpenSpec.ofChange fnExactPlacesSpec)

/-- ITS FALSE NEIGHBOUR: 'it returns false'. Refute it at one input. -/
def fnExactPlacesWrong : ChangeSpec := { name := "fnExactPlaces", fn := fun _ => fun
  | [d1, d2, d3] => { results := [.lit (.bool false)], args := [d1, d2, d3] }
  | _ => none }
def FnExactPlacesWrongFalsely : Prop := fnExactPlacesRow.holds Try.pinned (OpenSpec.ofChange fnExactPlacesWrong)

/-- 'laws.FnAround': WHATEVER THE INPUT: true; the input reads as it did. -/
def fnAroundSpec : ChangeSpec := { name := "fnAround", fn := fun _ => fun
  | [d] => { results := [.lit (.bool true)], args := [d] }
  | _ => none }
def fnAroundRow : OpenClaim := { program := "ytghcicggamkjgaa", sum := "6f91790fb1a8d9f5a250b9468cb043f8ad0d02cb2da8e20b9d130e24a86ce990", func := "loop.example/g00661/laws.FnAround", spec := "fnAround", unfollowed := true, recurses := true, apart := false }
def FnAroundSaid : Prop := fnAroundRow.holds Try.pinned (OpenSpec.ofChange fnAroundSpec)

/-- ITS FALSE NEIGHBOUR: 'it returns false'. Refute it at one input. -/
def fnAroundWrong : ChangeSpec := { name := "fnAround", fn := fun _ => fun
  | [d] => { results := [.lit (.bool false)], args := [d] }
  | _ => none }
def FnAroundWrongFalsely : Prop := fnAroundRow.holds Try.pinned (OpenSpec.ofChange fnAroundWrong)

/-- 'laws.FnExactSplit': WHATEVER THE INPUT: true; the input reads as it did. -/
def fnExactSplitSpec : ChangeSpec := { name := "fnExactSplit", fn := fun _ => fun
  | [d1, d2, d3, d4, d5, d6] => { results := [.lit (.bool true)], args := [d1, d2, d3, d4, d5, d6] }
  | _ => none }
def fnExactSplitRow : OpenClaim := { program := "ytghcicggamkjgaa", sum := "6f91790fb1a8d9f5a250b9468cb043f8ad0d02cb2da8e20b9d130e24a86ce990", func := "loop.example/g00661/laws.FnExactSplit", spec := "fnExactSplit", unfollowed := true, recurses := true, apart := false }
def FnExactSplitSaid : Prop := fnExactSplitRow.holds Try.pinned (OpenSpec.ofChange fnExactSplitSpec)

/-- ITS FALSE NEIGHBOUR: 'it returns false'. Refute it at one input. -/
def fnExactSplitWrong : ChangeSpec := { name := "fnExactSplit", fn := fun _ => fun
  | [d1, d2, d3, d4, d5, d6] => { results := [.lit (.bool false)], args := [d1, d2, d3, d4, d5, d6] }
  | _ => none }
def FnExactSplitWrongFalsely : Prop := fnExactSplitRow.holds Try.pinned (OpenSpec.ofChange fnExactSplitWrong)

/-- 'laws.FnExactGrow': WHATEVER THE INPUT: true; the input reads as it did. -/
def fnExactGrowSpec : ChangeSpec := { name := "fnExactGrow", fn := fun _ => fun
  | [d1, d2, d3, d4, d5, d6] => { results := [.lit (.bool true)], args := [d1, d2, d3, d4, d5, d6] }
  | _ => none }
def fnExactGrowRow : OpenClaim := { program := "ytghcicggamkjgaa", sum := "6f91790fb1a8d9f5a250b9468cb043f8ad0d02cb2da8e20b9d130e24a86ce990", func := "loop.example/g00661/laws.FnExactGrow", spec := "fnExactGrow", unfollowed := true, recurses := true, apart := false }
def FnExactGrowSaid : Prop := fnExactGrowRow.holds Try.pinned (OpenSpec.ofChange fnExactGrowSpec)

/-- ITS FALSE NEIGHBOUR: 'it returns false'. Refute it at one input. -/
def fnExactGrowWrong : ChangeSpec := { name := "fnExactGrow", fn := fun _ => fun
  | [d1, d2, d3, d4, d5, d6] => { results := [.lit (.bool false)], args := [d1, d2, d3, d4, d5, d6] }
  | _ => none }
def FnExactGrowWrongFalsely : Prop := fnExactGrowRow.holds Try.pinned (OpenSpec.ofChange fnExactGrowWrong)

/-- 'laws.FnSplit': WHATEVER THE INPUT: true; the input reads as it did. -/
def fnSplitSpec : ChangeSpec := { name := "fnSplit", fn := fun _ => fun
  | [d] => { results := [.lit (.bool true)], args := [d] }
  | _ => none }
def fnSplitRow : OpenClaim := { program := "ytghcicggamkjgaa", sum := "6f91790fb1a8d9f5a250b9468cb043f8ad0d02cb2da8e20b9d130e24a86ce990", func := "loop.example/g00661/laws.FnSplit", spec := "fnSplit", unfollowed := true, recurses := true, apart := false }
def FnSplitSaid : Prop := fnSplitRow.holds Try.pinned (OpenSpec.ofChange fnSplitSpec)

/-- ITS FALSE NEIGHBOUR: 'it returns false'. Refute it at one input. -/
def fnSplitWrong : ChangeSpec := { name := "fnSplit", fn := fun _ => fun
  | [d] => { results := [.lit (.bool false)], args := [d] }
  | _ => none }
def FnSplitWrongFalsely : Prop := fnSplitRow.holds Try.pinned (OpenSpec.ofChange fnSplitWrong)

/-- 'laws.FnGrow': WHATEVER THE INPUT: true; the input reads as it did. -/
def fnGrowSpec : ChangeSpec := { name := "fnGrow", fn := fun _ => fun
  | [d] => { results := [.lit (.bool true)], args := [d] }
  | _ => none }
def fnGrowRow : OpenClaim := { program := "ytghcicggamkjgaa", sum := "6f91790fb1a8d9f5a250b9468cb043f8ad0d02cb2da8e20b9d130e24a86ce990", func := "loop.example/g00661/laws.FnGrow", spec := "fnGrow", unfollowed := true, recurses := true, apart := false }
def FnGrowSaid : Prop := fnGrowRow.holds Try.pinned (OpenSpec.ofChange fnGrowSpec)

/-- ITS FALSE NEIGHBOUR: 'it returns false'. Refute it at one input. -/
def fnGrowWrong : ChangeSpec := { name := "fnGrow", fn := fun _ => fun
  | [d] => { results := [.lit (.bool false)], args := [d] }
  | _ => none }
def FnGrowWrongFalsely : Prop := fnGrowRow.holds Try.pinned (OpenSpec.ofChange fnGrowWrong)

/- THE SECOND FORM. 'bulk': how many values and letters a reading holds, each counted each time it is reached (what is shared counts as often as it is met; a slice's spare places count too). A statement '..UptoSaid' is the law's where the arguments, and the package variables that the reading takes, are together of bulk at most 1048576: NARROWER than '..Said'. Prove '..Said' where nothing that the law and all that it calls make is longer than what came in: it says more and counts as full. Else prove '..UptoSaid'. A law counts once. -/
mutual
def uptoBulk {H : Type} : DataW H → Nat
  | .lit (.string bytes) => bytes.length + 1
  | .lit _ => 1
  | .nil => 1
  | .ptr d => uptoBulk d + 1
  | .slice elems spare => uptoBulkAll elems + uptoBulkAll spare + 1
  | .agg parts => uptoBulkAll parts + 1
  | .iface _ d => uptoBulk d + 1
  | .map entries => uptoBulkEntries entries + 1
  | .held _ => 1
def uptoBulkAll {H : Type} : List (DataW H) → Nat
  | [] => 0
  | d :: r => uptoBulk d + uptoBulkAll r
def uptoBulkEntries {H : Type} : List (Lit × DataW H) → Nat
  | [] => 0
  | x :: r => uptoBulkEntry x + uptoBulkEntries r
def uptoBulkEntry {H : Type} : Lit × DataW H → Nat
  | (.string bytes, d) => bytes.length + uptoBulk d + 1
  | (_, d) => uptoBulk d + 1
 end
def uptoSmall : (H : Type) → List (DataW H) → Bool := fun _ ds => decide (uptoBulkAll ds ≤ 1048576)
def OpenSpec.upto (s : _root_.Go.ChangeSpec) : _root_.Go.OpenSpec := { _root_.Go.OpenSpec.ofChange s with cond := some uptoSmall }

/-- 'laws.FnExactTreeOk', WHERE WHAT IT READS IS OF BULK AT MOST 1048576: true; the input reads as it did. -/
def fnExactTreeOkUptoRow : OpenClaim := { program := "ytghcicggamkjgaa", sum := "6f91790fb1a8d9f5a250b9468cb043f8ad0d02cb2da8e20b9d130e24a86ce990", func := "loop.example/g00661/laws.FnExactTreeOk", spec := "fnExactTreeOk", recurses := true, apart := false, narrowed := true }
def FnExactTreeOkUptoSaid : Prop := fnExactTreeOkUptoRow.holds Try.pinned (OpenSpec.upto fnExactTreeOkSpec)

/-- 'laws.FnExactAfter', WHERE WHAT IT READS IS OF BULK AT MOST 1048576: true; the input reads as it did. -/
def fnExactAfterUptoRow : OpenClaim := { program := "ytghcicggamkjgaa", sum := "6f91790fb1a8d9f5a250b9468cb043f8ad0d02cb2da8e20b9d130e24a86ce990", func := "loop.example/g00661/laws.FnExactAfter", spec := "fnExactAfter", recurses := true, apart := false, narrowed := true }
def FnExactAfterUptoSaid : Prop := fnExactAfterUptoRow.holds Try.pinned (OpenSpec.upto fnExactAfterSpec)

/-- 'laws.FnExactLeaves', WHERE WHAT IT READS IS OF BULK AT MOST 1048576: true; the input reads as it did. -/
def fnExactLeavesUptoRow : OpenClaim := { program := "ytghcicggamkjgaa", sum := "6f91790fb1a8d9f5a250b9468cb043f8ad0d02cb2da8e20b9d130e24a86ce990", func := "loop.example/g00661/laws.FnExactLeaves", spec := "fnExactLeaves", recurses := true, apart := false, narrowed := true }
def FnExactLeavesUptoSaid : Prop := fnExactLeavesUptoRow.holds Try.pinned (OpenSpec.upto fnExactLeavesSpec)

/-- 'laws.FnExactSwap', WHERE WHAT IT READS IS OF BULK AT MOST 1048576: true; the input reads as it did. -/
def fnExactSwapUptoRow : OpenClaim := { program := "ytghcicggamkjgaa", sum := "6f91790fb1a8d9f5a250b9468cb043f8ad0d02cb2da8e20b9d130e24a86ce990", func := "loop.example/g00661/laws.FnExactSwap", spec := "fnExactSwap", unfollowed := true, recurses := true, apart := false, narrowed := true }
def FnExactSwapUptoSaid : Prop := fnExactSwapUptoRow.holds Try.pinned (OpenSpec.upto fnExactSwapSpec)

/-- 'laws.FnExactCut', WHERE WHAT IT READS IS OF BULK AT MOST 1048576: true; the input reads as it did. -/
def fnExactCutUptoRow : OpenClaim := { program := "ytghcicggamkjgaa", sum := "6f91790fb1a8d9f5a250b9468cb043f8ad0d02cb2da8e20b9d130e24a86ce990", func := "loop.example/g00661/laws.FnExactCut", spec := "fnExactCut", unfollowed := true, recurses := true, apart := false, narrowed := true }
def FnExactCutUptoSaid : Prop := fnExactCutUptoRow.holds Try.pinned (OpenSpec.upto fnExactCutSpec)

/-- 'laws.FnExactPlaceOf', WHERE WHAT IT READS IS OF BULK AT MOST 1048576: true; the input reads as it did. -/
def fnExactPlaceOfUptoRow : OpenClaim := { program := "ytghcicggamkjgaa", sum := "6f91790fb1a8d9f5a250b9468cb043f8ad0d02cb2da8e20b9d130e24a86ce990", func := "loop.example/g00661/laws.FnExactPlaceOf", spec := "fnExactPlaceOf", unfollowed := true, recurses := true, apart := false, narrowed := true }
def FnExactPlaceOfUptoSaid : Prop := fnExactPlaceOfUptoRow.holds Try.pinned (OpenSpec.upto fnExactPlaceOfSpec)

/-- 'laws.FnTree', WHERE WHAT IT READS IS OF BULK AT MOST 1048576: true; the input reads as it did. -/
def fnTreeUptoRow : OpenClaim := { program := "ytghcicggamkjgaa", sum := "6f91790fb1a8d9f5a250b9468cb043f8ad0d02cb2da8e20b9d130e24a86ce990", func := "loop.example/g00661/laws.FnTree", spec := "fnTree", unfollowed := true, recurses := true, apart := false, narrowed := true }
def FnTreeUptoSaid : Prop := fnTreeUptoRow.holds Try.pinned (OpenSpec.upto fnTreeSpec)

/-- 'laws.FnExactBeside', WHERE WHAT IT READS IS OF BULK AT MOST 1048576: true; the input reads as it did. -/
def fnExactBesideUptoRow : OpenClaim := { program := "ytghcicggamkjgaa", sum := "6f91790fb1a8d9f5a250b9468cb043f8ad0d02cb2da8e20b9d130e24a86ce990", func := "loop.example/g00661/laws.FnExactBeside", spec := "fnExactBeside", unfollowed := true, recurses := true, apart := false, narrowed := true }
def FnExactBesideUptoSaid : Prop := fnExactBesideUptoRow.holds Try.pinned (OpenSpec.upto fnExactBesideSpec)

/-- 'laws.FnExactPlaces', WHERE WHAT IT READS IS OF BULK AT MOST 1048576: true; the input reads as it did. -/
def fnExactPlacesUptoRow : OpenClaim := { program := "ytghcicggamkjgaa", sum := "6f91790fb1a8d9f5a250b9468cb043f8ad0d02cb2da8e20b9d130e24a86ce990", func := "loop.example/g00661/laws.FnExactPlaces", spec := "fnExactPlaces", unfollowed := true, recurses := true, apart := false, narrowed := true }
def FnExactPlacesUptoSaid : Prop := fnExactPlacesUptoRow.holds Try.pinned (OpenSpec.upto fnExactPlacesSpec)

/-- 'laws.FnAround', WHERE WHAT IT READS IS OF BULK AT MOST 1048576: true; the input reads as it did. -/
def fnAroundUptoRow : OpenClaim := { program := "ytghcicggamkjgaa", sum := "6f91790fb1a8d9f5a250b9468cb043f8ad0d02cb2da8e20b9d130e24a86ce990", func := "loop.example/g00661/laws.FnAround", spec := "fnAround", unfollowed := true, recurses := true, apart := false, narrowed := true }
def FnAroundUptoSaid : Prop := fnAroundUptoRow.holds Try.pinned (OpenSpec.upto fnAroundSpec)

/-- 'laws.FnExactSplit', WHERE WHAT IT READS IS OF BULK AT MOST 1048576: true; the input reads as it did. -/
def fnExactSplitUptoRow : OpenClaim := { program := "ytghcicggamkjgaa", sum := "6f91790fb1a8d9f5a250b9468cb043f8ad0d02cb2da8e20b9d130e24a86ce990", func := "loop.example/g00661/laws.FnExactSplit", spec := "fnExactSplit", unfollowed := true, recurses := true, apart := false, narrowed := true }
def FnExactSplitUptoSaid : Prop := fnExactSplitUptoRow.holds Try.pinned (OpenSpec.upto fnExactSplitSpec)

/-- 'laws.FnExactGrow', WHERE WHAT IT READS IS OF BULK AT MOST 1048576: true; the input reads as it did. -/
def fnExactGrowUptoRow : OpenClaim := { program := "ytghcicggamkjgaa", sum := "6f91790fb1a8d9f5a250b9468cb043f8ad0d02cb2da8e20b9d130e24a86ce990", func := "loop.example/g00661/laws.FnExactGrow", spec := "fnExactGrow", unfollowed := true, recurses := true, apart := false, narrowed := true }
def FnExactGrowUptoSaid : Prop := fnExactGrowUptoRow.holds Try.pinned (OpenSpec.upto fnExactGrowSpec)

/-- 'laws.FnSplit', WHERE WHAT IT READS IS OF BULK AT MOST 1048576: true; the input reads as it did. -/
def fnSplitUptoRow : OpenClaim := { program := "ytghcicggamkjgaa", sum := "6f91790fb1a8d9f5a250b9468cb043f8ad0d02cb2da8e20b9d130e24a86ce990", func := "loop.example/g00661/laws.FnSplit", spec := "fnSplit", unfollowed := true, recurses := true, apart := false, narrowed := true }
def FnSplitUptoSaid : Prop := fnSplitUptoRow.holds Try.pinned (OpenSpec.upto fnSplitSpec)

/-- 'laws.FnGrow', WHERE WHAT IT READS IS OF BULK AT MOST 1048576: true; the input reads as it did. -/
def fnGrowUptoRow : OpenClaim := { program := "ytghcicggamkjgaa", sum := "6f91790fb1a8d9f5a250b9468cb043f8ad0d02cb2da8e20b9d130e24a86ce990", func := "loop.example/g00661/laws.FnGrow", spec := "fnGrow", unfollowed := true, recurses := true, apart := false, narrowed := true }
def FnGrowUptoSaid : Prop := fnGrowUptoRow.holds Try.pinned (OpenSpec.upto fnGrowSpec)

end Rows
end Go.Proofs.Ytghcicggamkjgaa
