/-
  No cell of these rows narrows 'for every input' (looked for: loops, veiled, ifaces, maps, wideKeys, modest, calm, conditions, laid).
  DERIVED. THE GIVEN ROWS OF THIS SEAT. 5 by the template 'for every input the law returns true; each argument reads behind the call as it read before'; 0 by the template 'total and deterministic' (their statements: YtmkgffhdbagmjaaTotals.lean).
  GIVEN WITH THE SEED: the statements are not yours to turn. If you find one false, say at which input.
  Laid BY PROGRAM, IN A SANDBOX (cutbox-rows.mjs): the forced cells as the released guide's own fill.sh prints them over the translation 1b73d670e7950fa1… (all of the seat's roots in one cut). By AI agents, Wed Nov 11 2026. No macro, syntax, notation, axiom, sorry.
-/
import Derived.Test.YtmkgffhdbagmjaaChecked
import GoSem.Claim
import GoSem.ClaimJoined
import GoSem.ClaimMapViews
import Derived.JoinedTies
import Derived.KernelRfl
namespace Go.Proofs.Ytmkgffhdbagmjaa
/- THE CELL 'sum', in the pinned program and in every row, IS THE sha256 OF THE DUMP (.gsa) THAT YtmkgffhdbagmjaaProg.lean LOADS. Nothing in Lean hashes anything: it is a label: what it is worth is what the hold of that sum in a sandbox is worth. -/
noncomputable def Try.pinned : Pinned := { name := "ytmkgffhdbagmjaa", sum := "1b73d670e7950fa11761b9952e9e359962c60b98317f13618407e11106d14026", checked := Try.checked }
namespace Rows
def none {H : Type} : Left H := { results := [], args := [] }

/-- 'laws.FnExactPaneOk': WHATEVER THE INPUT: true; the input reads as it did. -/
def fnExactPaneOkSpec : ChangeSpec := { name := "fnExactPaneOk", fn := fun _ => fun
  | [d] => { results := [.lit (.bool true)], args := [d] }
  | _ => none }
def fnExactPaneOkRow : OpenClaim := { program := "ytmkgffhdbagmjaa", sum := "1b73d670e7950fa11761b9952e9e359962c60b98317f13618407e11106d14026", func := "loop.example/g00661/laws.FnExactPaneOk", spec := "fnExactPaneOk", unfollowed := true, recurses := true, apart := false }
def FnExactPaneOkSaid : Prop := fnExactPaneOkRow.holds Try.pinned (OpenSpec.ofChange fnExactPaneOkSpec)

/-- ITS FALSE NEIGHBOUR: 'it returns false'. Refute it at one input. -/
def fnExactPaneOkWrong : ChangeSpec := { name := "fnExactPaneOk", fn := fun _ => fun
  | [d] => { results := [.lit (.bool false)], args := [d] }
  | _ => none }
def FnExactPaneOkWrongFalsely : Prop := fnExactPaneOkRow.holds Try.pinned (OpenSpec.ofChange fnExactPaneOkWrong)

/-- 'laws.FnExactPaneAt': WHATEVER THE INPUT: true; the input reads as it did. -/
def fnExactPaneAtSpec : ChangeSpec := { name := "fnExactPaneAt", fn := fun _ => fun
  | [d1, d2] => { results := [.lit (.bool true)], args := [d1, d2] }
  | _ => none }
def fnExactPaneAtRow : OpenClaim := { program := "ytmkgffhdbagmjaa", sum := "1b73d670e7950fa11761b9952e9e359962c60b98317f13618407e11106d14026", func := "loop.example/g00661/laws.FnExactPaneAt", spec := "fnExactPaneAt", unfollowed := true, recurses := true, apart := false }
def FnExactPaneAtSaid : Prop := fnExactPaneAtRow.holds Try.pinned (OpenSpec.ofChange fnExactPaneAtSpec)

/-- ITS FALSE NEIGHBOUR: 'it returns false'. Refute it at one input. -/
def fnExactPaneAtWrong : ChangeSpec := { name := "fnExactPaneAt", fn := fun _ => fun
  | [d1, d2] => { results := [.lit (.bool false)], args := [d1, d2] }
  | _ => none }
def FnExactPaneAtWrongFalsely : Prop := fnExactPaneAtRow.holds Try.pinned (OpenSpec.ofChange fnExactPaneAtWrong)

/-- 'laws.FnExactSessAt': WHATEVER THE INPUT: true; the input reads as it did. -/
def fnExactSessAtSpec : ChangeSpec := { name := "fnExactSessAt", fn := fun _ => fun
  | [d1, d2] => { results := [.lit (.bool true)], args := [d1, d2] }
  | _ => none }
def fnExactSessAtRow : OpenClaim := { program := "ytmkgffhdbagmjaa", sum := "1b73d670e7950fa11761b9952e9e359962c60b98317f13618407e11106d14026", func := "loop.example/g00661/laws.FnExactSessAt", spec := "fnExactSessAt", unfollowed := true, recurses := true, apart := false }
def FnExactSessAtSaid : Prop := fnExactSessAtRow.holds Try.pinned (OpenSpec.ofChange fnExactSessAtSpec)

/-- ITS FALSE NEIGHBOUR: 'it returns false'. Refute it at one input. -/
def fnExactSessAtWrong : ChangeSpec := { name := "fnExactSessAt", fn := fun _ => fun
  | [d1, d2] => { results := [.lit (.bool false)], args := [d1, d2] }
  | _ => none }
def FnExactSessAtWrongFalsely : Prop := fnExactSessAtRow.holds Try.pinned (OpenSpec.ofChange fnExactSessAtWrong)

/-- 'laws.FnExactWinAt': WHATEVER THE INPUT: true; the input reads as it did. -/
def fnExactWinAtSpec : ChangeSpec := { name := "fnExactWinAt", fn := fun _ => fun
  | [d1, d2] => { results := [.lit (.bool true)], args := [d1, d2] }
  | _ => none }
def fnExactWinAtRow : OpenClaim := { program := "ytmkgffhdbagmjaa", sum := "1b73d670e7950fa11761b9952e9e359962c60b98317f13618407e11106d14026", func := "loop.example/g00661/laws.FnExactWinAt", spec := "fnExactWinAt", unfollowed := true, recurses := true, apart := false }
def FnExactWinAtSaid : Prop := fnExactWinAtRow.holds Try.pinned (OpenSpec.ofChange fnExactWinAtSpec)

/-- ITS FALSE NEIGHBOUR: 'it returns false'. Refute it at one input. -/
def fnExactWinAtWrong : ChangeSpec := { name := "fnExactWinAt", fn := fun _ => fun
  | [d1, d2] => { results := [.lit (.bool false)], args := [d1, d2] }
  | _ => none }
def FnExactWinAtWrongFalsely : Prop := fnExactWinAtRow.holds Try.pinned (OpenSpec.ofChange fnExactWinAtWrong)

/-- 'laws.FnExactSessOf': WHATEVER THE INPUT: true; the input reads as it did. -/
def fnExactSessOfSpec : ChangeSpec := { name := "fnExactSessOf", fn := fun _ => fun
  | [d1, d2] => { results := [.lit (.bool true)], args := [d1, d2] }
  | _ => none }
def fnExactSessOfRow : OpenClaim := { program := "ytmkgffhdbagmjaa", sum := "1b73d670e7950fa11761b9952e9e359962c60b98317f13618407e11106d14026", func := "loop.example/g00661/laws.FnExactSessOf", spec := "fnExactSessOf", unfollowed := true, recurses := true, apart := false }
def FnExactSessOfSaid : Prop := fnExactSessOfRow.holds Try.pinned (OpenSpec.ofChange fnExactSessOfSpec)

/-- ITS FALSE NEIGHBOUR: 'it returns false'. Refute it at one input. -/
def fnExactSessOfWrong : ChangeSpec := { name := "fnExactSessOf", fn := fun _ => fun
  | [d1, d2] => { results := [.lit (.bool false)], args := [d1, d2] }
  | _ => none }
def FnExactSessOfWrongFalsely : Prop := fnExactSessOfRow.holds Try.pinned (OpenSpec.ofChange fnExactSessOfWrong)

/- THE SECOND FORM. 'bulk': how many values and letters a reading holds, each counted each time it is reached (what is shared counts as often as it is met; a slice's spare places count too). A statement '..UptoSaid' is the law's where the arguments, and the package variables that the reading takes, are together of bulk at most 1048576: NARROWER than '..Said'. Prove '..Said' where nothing that the law and all that it calls make is longer than what came in: it says more and counts as full. Else prove '..UptoSaid'. A law counts once. -/
mutual
def uptoBulk {H : Type} : DataW H → Nat
  | .lit (.string bytes) => bytes.length + 1
  | .lit _ => 1
  | .nil => 1
  | .ptr d => uptoBulk d + 1
  | .slice elems spare => uptoBulkAll elems + uptoBulkAll spare + 1
  | .agg parts => uptoBulkAll parts + 1
  | .iface _ d => uptoBulk d + 1
  | .map entries => uptoBulkEntries entries + 1
  | .held _ => 1
def uptoBulkAll {H : Type} : List (DataW H) → Nat
  | [] => 0
  | d :: r => uptoBulk d + uptoBulkAll r
def uptoBulkEntries {H : Type} : List (Lit × DataW H) → Nat
  | [] => 0
  | x :: r => uptoBulkEntry x + uptoBulkEntries r
def uptoBulkEntry {H : Type} : Lit × DataW H → Nat
  | (.string bytes, d) => bytes.length + uptoBulk d + 1
  | (_, d) => uptoBulk d + 1
 end
def uptoSmall : (H : Type) → List (DataW H) → Bool := fun _ ds => decide (uptoBulkAll ds ≤ 1048576)
def OpenSpec.upto (s : _root_.Go.ChangeSpec) : _root_.Go.OpenSpec := { _root_.Go.OpenSpec.ofChange s with cond := some uptoSmall }

/-- 'laws.FnExactPaneOk', WHERE WHAT IT READS IS OF BULK AT MOST 1048576: true; the input reads as it did. -/
def fnExactPaneOkUptoRow : OpenClaim := { program := "ytmkgffhdbagmjaa", sum := "1b73d670e7950fa11761b9952e9e359962c60b98317f13618407e11106d14026", func := "loop.example/g00661/laws.FnExactPaneOk", spec := "fnExactPaneOk", unfollowed := true, recurses := true, apart := false, narrowed := true }
def FnExactPaneOkUptoSaid : Prop := fnExactPaneOkUptoRow.holds Try.pinned (OpenSpec.upto fnExactPaneOkSpec)

/-- 'laws.FnExactPaneAt', WHERE WHAT IT READS IS OF BULK AT MOST 1048576: true; the input reads as it did. -/
def fnExactPaneAtUptoRow : OpenClaim := { program := "ytmkgffhdbagmjaa", sum := "1b73d670e7950fa11761b9952e9e359962c60b98317f13618407e11106d14026", func := "loop.example/g00661/laws.FnExactPaneAt", spec := "fnExactPaneAt", unfollowed := true, recurses := true, apart := false, narrowed := true }
def FnExactPaneAtUptoSaid : Prop := fnExactPaneAtUptoRow.holds Try.pinned (OpenSpec.upto fnExactPaneAtSpec)

/-- 'laws.FnExactSessAt', WHERE WHAT IT READS IS OF BULK AT MOST 1048576: true; the input reads as it did. -/
def fnExactSessAtUptoRow : OpenClaim := { program := "ytmkgffhdbagmjaa", sum := "1b73d670e7950fa11761b9952e9e359962c60b98317f13618407e11106d14026", func := "loop.example/g00661/laws.FnExactSessAt", spec := "fnExactSessAt", unfollowed := true, recurses := true, apart := false, narrowed := true }
def FnExactSessAtUptoSaid : Prop := fnExactSessAtUptoRow.holds Try.pinned (OpenSpec.upto fnExactSessAtSpec)

/-- 'laws.FnExactWinAt', WHERE WHAT IT READS IS OF BULK AT MOST 1048576: true; the input reads as it did. -/
def fnExactWinAtUptoRow : OpenClaim := { program := "ytmkgffhdbagmjaa", sum := "1b73d670e7950fa11761b9952e9e359962c60b98317f13618407e11106d14026", func := "loop.example/g00661/laws.FnExactWinAt", spec := "fnExactWinAt", unfollowed := true, recurses := true, apart := false, narrowed := true }
def FnExactWinAtUptoSaid : Prop := fnExactWinAtUptoRow.holds Try.pinned (OpenSpec.upto fnExactWinAtSpec)

/-- 'laws.FnExactSessOf', WHERE WHAT IT READS IS OF BULK AT MOST 1048576: true; the input reads as it did. -/
def fnExactSessOfUptoRow : OpenClaim := { program := "ytmkgffhdbagmjaa", sum := "1b73d670e7950fa11761b9952e9e359962c60b98317f13618407e11106d14026", func := "loop.example/g00661/laws.FnExactSessOf", spec := "fnExactSessOf", unfollowed := true, recurses := true, apart := false, narrowed := true }
def FnExactSessOfUptoSaid : Prop := fnExactSessOfUptoRow.holds Try.pinned (OpenSpec.upto fnExactSessOfSpec)

end Rows
end Go.Proofs.Ytmkgffhdbagmjaa
