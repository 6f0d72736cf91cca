/-
  The engine, part 12: pointers looked at, bits of whatever number, loops that turn some blocks and one slice.
-/
import Derived.Test.YtpiimkfonlijdaaE11
namespace Go.Proofs.Ytpiimkfonlijdaa
open Go Go.RowKit
set_option linter.unusedVariables false
set_option linter.unusedSimpArgs false

section
variable {P : Program} {w : World} {o : Oper} {f : Fr} {t t' : TypeId} {x y : Operand} {a b : Int}
theorem Run.nilCheck {p : Addr} (ho : o.op = .nilCheck x) (hx : ev f x = some (.pointer (some p))) : Run P o f w (.value (.pointer (some p))) w := fun ρ hρ => by
  simp [execOp, ho, hρ _ _ hx, asAddr, Instr.sureAddr, go_sem]
def bitsAnd (a b : Int) : Int := IntKind.i64.wrap ((BitVec.ofInt 64 a &&& BitVec.ofInt 64 b).toNat : Int)
def bitsXor (a b : Int) : Int := IntKind.i64.wrap ((BitVec.ofInt 64 a ^^^ BitVec.ofInt 64 b).toNat : Int)
theorem Run.andB (ho : o.op = .binOp .and t x y t') (hx : ev f x = some (.int .i64 a)) (hy : ev f y = some (.int .i64 b)) : Run P o f w (.value (.int .i64 (bitsAnd a b))) w := fun ρ hρ => by
  simp [execOp, ho, hρ _ _ hx, hρ _ _ hy, eqGuard, binOp, Op.intBits]
  rfl
theorem Run.xorB (ho : o.op = .binOp .xor t x y t') (hx : ev f x = some (.int .i64 a)) (hy : ev f y = some (.int .i64 b)) : Run P o f w (.value (.int .i64 (bitsXor a b))) w := fun ρ hρ => by
  simp [execOp, ho, hρ _ _ hx, hρ _ _ hy, eqGuard, binOp, Op.intBits]
  rfl
theorem bitsAnd_mask (a : Int) {m : Int} (h0 : 0 ≤ m) (h1 : m ≤ 9223372036854775807) : 0 ≤ bitsAnd a m ∧ bitsAnd a m ≤ m := by
  have h2 : (BitVec.ofInt 64 a &&& BitVec.ofInt 64 m).toNat ≤ m.toNat := by
    rw [BitVec.toNat_and, bvNat h0 h1]
    exact Nat.and_le_right
  have h3 : In64 (((BitVec.ofInt 64 a &&& BitVec.ofInt 64 m).toNat : Nat) : Int) := by constructor <;> omega
  have h4 : bitsAnd a m = ((BitVec.ofInt 64 a &&& BitVec.ofInt 64 m).toNat : Int) := wrap_in h3
  rw [h4]
  omega
end
/-- A loop that turns some of what is ours; the rest stays. -/
theorem WC.loopV {P : Program} {n : Nat} {c : Code} {Q : Kont} {f : Fr} {w0 w : World} {T : List Nat} {R : Hp} {α : Type} (F : Fr) (hF : Sub F f) (L : α → Hp) (a0 : α) (hst : St w0 T (L a0 ++ R) w) (I : Nat → α → Fr → Prop) (k0 : Nat) (h0 : I k0 a0 f)
    (hr : ∀ k a f w, I k a f → Sub F f → St w0 T (L a ++ R) w → WC P n c (thenK (fun f' w' => Sub F f' ∧ ∃ a', St w0 T (L a' ++ R) w' ∧ ∃ k', k' < k ∧ I k' a' f') Q) f w) : WC P n (.loop c) Q f w :=
  WC.loopN (fun k f w => ∃ a, I k a f ∧ Sub F f ∧ St w0 T (L a ++ R) w) k0 ⟨a0, h0, hF, hst⟩ fun k f w ⟨a, h1, h2, h3⟩ => (hr k a f w h1 h2 h3).mono fun e f' w' q => by
    cases e
    case normal =>
      obtain ⟨q1, a', q2, k', q3, q4⟩ := q
      exact ⟨k', q3, a', q4, q1, q2⟩
    all_goals exact q
theorem St.take1 (w : World) (b : Nat) (o : Obj) (h : w.heap[b]? = some o) : St w [b] [(b, o)] w := by
  have := St.take w [(b, o)] (fun p hp => by simp at hp; subst hp; exact h) (by simp)
  exact this
end Go.Proofs.Ytpiimkfonlijdaa
