/-
  The engine, part 8: comparing structs; bits; calls of function values.
-/
import Derived.Test.YtpiimkfonlijdaaE7
import Derived.Laws.StructEq
namespace Go.Proofs.Ytpiimkfonlijdaa
open Go Go.RowKit
set_option linter.unusedVariables false
set_option linter.unusedSimpArgs false

section
variable {P : Program} {w : World} {d : Nat}
theorem part_one {t : TypeId} {cl : List Value} {off : Nat} {v : Value} (ha : ∀ w, (isAgg t).run P w = .ok false w) (hv : cl[off]? = some v) : (part t cl.toArray off).run P w = .ok v w := by
  simp [part, ha, hv]
theorem part_agg {t : TypeId} {cl us : List Value} {off n : Nat} (ha : ∀ w, (isAgg t).run P w = .ok true w) (hz : ∀ w, (sizeOf t).run P w = .ok n w) (hv : (cl.drop off).take n = us) : (part t cl.toArray off).run P w = .ok (.agg us.toArray) w := by
  have e : cl.toArray.extract off (off + n) = us.toArray := by
    apply Array.toList_inj.1
    rw [← hv]
    simp [List.extract_eq_take_drop]
  simp [part, ha, hz]
  exact hv
theorem eqFields_nil {xs ys : Array Value} : (Op.eqFields d xs ys []).run P w = .ok true w := by simp [Op.eqFields]
theorem eqFields_cons {xs ys : Array Value} {f : Field} {fs : List Field} {a b : Value} {r R : Bool} (hn : (f.name == "_") = false) (h1 : (part f.type xs f.offset).run P w = .ok a w) (h2 : (part f.type ys f.offset).run P w = .ok b w) (h3 : (Op.equalIn d f.type a b).run P w = .ok r w) (h4 : (Op.eqFields d xs ys fs).run P w = .ok R w) :
    (Op.eqFields d xs ys (f :: fs)).run P w = .ok (r && R) w := by
  have hn' : f.name ≠ "_" := by simpa using hn
  unfold Op.eqFields
  rw [if_pos hn']
  simp only [Sem.run_bind, h1, h2, h3, Result.andThen_ok]
  cases r
  · simp
  · simp [h4]
theorem equalIn_struct {t : TypeId} {fs : Array Field} {fl : List Field} {xs ys : Array Value} {R : Bool} (ht : P.underlying t = some (.struct fs)) (hfl : fs.toList = fl) (hp : P.stoodInHeld t = false) (h : (Op.eqFields d xs ys fl).run P w = .ok R w) : (Op.equalIn (d + 1) t (.agg xs) (.agg ys)).run P w = .ok R w := by
  have e : P.fieldsOf t = fs := by unfold Program.fieldsOf; rw [ht]
  rw [run_equalIn_struct w d t xs ys (by rw [e]; exact ht) hp, e, hfl, h]
theorem equalIn_int {t : TypeId} {k k' : IntKind} {a b : Int} (h : P.underlying t = some (.int k')) : (Op.equalIn (d + 1) t (.int k a) (.int k b)).run P w = .ok (a == b) w := run_equalIn_int w d t k k' a b h
theorem equalIn_bool' {t : TypeId} {a b : Bool} (h : P.underlying t = some .bool) : (Op.equalIn (d + 1) t (.bool a) (.bool b)).run P w = .ok (a == b) w := run_equalIn_bool' w d t a b h
theorem equalIn_str {t : TypeId} {a b : ByteArray} (h : P.underlying t = some .string) : (Op.equalIn (d + 1) t (.string a) (.string b)).run P w = .ok (a == b) w := by
  simp [Op.equalIn, run_underlying h]
theorem Run.eqlA {o : Oper} {f : Fr} {t t' : TypeId} {x y : Operand} {a b : Array Value} {r : Bool} (heq : ∀ w, (Op.equalIn 10000 t (.agg a) (.agg b)).run P w = .ok r w) (hg : P.eqGuardType P.depth t = false) (ho : o.op = .binOp .eql t x y t') (hx : ev f x = some (.agg a)) (hy : ev f y = some (.agg b)) : Run P o f w (.value (.bool r)) w := fun ρ hρ => by
  simp [execOp, ho, hρ _ _ hx, hρ _ _ hy, run_eqGuard_agg w _ _ _ _ _ _ hg, run_eql_struct, heq]
theorem Run.neqA {o : Oper} {f : Fr} {t t' : TypeId} {x y : Operand} {a b : Array Value} {r : Bool} (heq : ∀ w, (Op.equalIn 10000 t (.agg a) (.agg b)).run P w = .ok r w) (hg : P.eqGuardType P.depth t = false) (ho : o.op = .binOp .neq t x y t') (hx : ev f x = some (.agg a)) (hy : ev f y = some (.agg b)) : Run P o f w (.value (.bool (!r))) w := fun ρ hρ => by
  simp [execOp, ho, hρ _ _ hx, hρ _ _ hy, run_eqGuard_agg w _ _ _ _ _ _ hg, run_neq_struct, heq]
end
/-! bits -/
section
variable {P : Program} {w : World} {o : Oper} {f : Fr} {t t' : TypeId} {x y : Operand} {a b : Int}
theorem bvNat {a : Int} (h0 : 0 ≤ a) (h1 : a ≤ 9223372036854775807) : (BitVec.ofInt 64 a).toNat = a.toNat := by
  rw [BitVec.toNat_ofInt]
  omega
theorem nat_lt {a : Int} (h1 : a ≤ 9223372036854775807) : a.toNat < 2 ^ 63 := by
  have : (2 : Nat) ^ 63 = 9223372036854775808 := by decide
  omega
theorem or_in {a b : Int} (h1 : a ≤ 9223372036854775807) (h2 : b ≤ 9223372036854775807) : In64 ((a.toNat ||| b.toNat : Nat) : Int) := by
  have := Nat.or_lt_two_pow (nat_lt h1) (nat_lt h2)
  have e : (2 : Nat) ^ 63 = 9223372036854775808 := by decide
  constructor <;> omega
theorem and_in {a b : Int} (h1 : a ≤ 9223372036854775807) : In64 ((a.toNat &&& b.toNat : Nat) : Int) := by
  have := Nat.and_lt_two_pow b.toNat (nat_lt h1)
  have h3 : a.toNat &&& b.toNat ≤ a.toNat := Nat.and_le_left
  constructor <;> omega
theorem xor_in {a b : Int} (h1 : a ≤ 9223372036854775807) (h2 : b ≤ 9223372036854775807) : In64 ((a.toNat ^^^ b.toNat : Nat) : Int) := by
  have := Nat.xor_lt_two_pow (nat_lt h1) (nat_lt h2)
  have e : (2 : Nat) ^ 63 = 9223372036854775808 := by decide
  constructor <;> omega
theorem Run.or (ho : o.op = .binOp .or t x y t') (hx : ev f x = some (.int .i64 a)) (hy : ev f y = some (.int .i64 b)) (h0 : 0 ≤ a) (h1 : a ≤ 9223372036854775807) (h2 : 0 ≤ b) (h3 : b ≤ 9223372036854775807) : Run P o f w (.value (.int .i64 ((a.toNat ||| b.toNat : Nat)))) w := fun ρ hρ => by
  have e : (BitVec.ofInt 64 a ||| BitVec.ofInt 64 b).toNat = a.toNat ||| b.toNat := by rw [BitVec.toNat_or, bvNat h0 h1, bvNat h2 h3]
  have e2 := wrap_in (or_in h1 h3)
  simp [execOp, ho, hρ _ _ hx, hρ _ _ hy, eqGuard, binOp, Op.intBits]
  exact (congrArg (fun n : Nat => IntKind.i64.wrap (n : Int)) e).trans e2
theorem Run.and (ho : o.op = .binOp .and t x y t') (hx : ev f x = some (.int .i64 a)) (hy : ev f y = some (.int .i64 b)) (h0 : 0 ≤ a) (h1 : a ≤ 9223372036854775807) (h2 : 0 ≤ b) (h3 : b ≤ 9223372036854775807) : Run P o f w (.value (.int .i64 ((a.toNat &&& b.toNat : Nat)))) w := fun ρ hρ => by
  have e : (BitVec.ofInt 64 a &&& BitVec.ofInt 64 b).toNat = a.toNat &&& b.toNat := by rw [BitVec.toNat_and, bvNat h0 h1, bvNat h2 h3]
  have e2 := wrap_in (and_in (a := a) (b := b) h1)
  simp [execOp, ho, hρ _ _ hx, hρ _ _ hy, eqGuard, binOp, Op.intBits]
  exact (congrArg (fun n : Nat => IntKind.i64.wrap (n : Int)) e).trans e2
theorem Run.xor (ho : o.op = .binOp .xor t x y t') (hx : ev f x = some (.int .i64 a)) (hy : ev f y = some (.int .i64 b)) (h0 : 0 ≤ a) (h1 : a ≤ 9223372036854775807) (h2 : 0 ≤ b) (h3 : b ≤ 9223372036854775807) : Run P o f w (.value (.int .i64 ((a.toNat ^^^ b.toNat : Nat)))) w := fun ρ hρ => by
  have e : (BitVec.ofInt 64 a ^^^ BitVec.ofInt 64 b).toNat = a.toNat ^^^ b.toNat := by rw [BitVec.toNat_xor, bvNat h0 h1, bvNat h2 h3]
  have e2 := wrap_in (xor_in h1 h3)
  simp [execOp, ho, hρ _ _ hx, hρ _ _ hy, eqGuard, binOp, Op.intBits]
  exact (congrArg (fun n : Nat => IntKind.i64.wrap (n : Int)) e).trans e2
theorem Run.remB {a : UInt8} (k : Nat) (ho : o.op = .binOp .rem t x y t') (hx : ev f x = some (.int .u8 a.toNat)) (hy : ev f y = some (.int .u8 (k : Int))) (h0 : 0 < k) (h1 : k ≤ 255) : Run P o f w (.value (.int .u8 ((UInt8.ofNat (a.toNat % k)).toNat))) w := fun ρ hρ => by
  have h3 := a.toNat_lt
  have h4 : a.toNat % k ≤ a.toNat := Nat.mod_le _ _
  have e : (a.toNat : Int).tmod (k : Int) = ((UInt8.ofNat (a.toNat % k)).toNat : Int) := by
    rw [UInt8.toNat_ofNat', Nat.mod_eq_of_lt (by omega), Int.tmod_eq_emod_of_nonneg (by omega)]
    omega
  have hk0 : k ≠ 0 := by omega
  rw [← e]
  simp [execOp, ho, hρ _ _ hx, hρ _ _ hy, eqGuard, binOp, Op.intDiv, hk0]
theorem Run.shl {k : IntKind} (ho : o.op = .binOp .shl t x y t') (hx : ev f x = some (.int .i64 a)) (hy : ev f y = some (.int k b)) (h0 : 0 ≤ b) (h1 : b ≤ 63) (h : In64 (a * 2 ^ b.toNat)) : Run P o f w (.value (.int .i64 (a * 2 ^ b.toNat))) w := fun ρ hρ => by
  have e : min b.toNat 64 = b.toNat := by omega
  have h2 : ¬ b < 0 := by omega
  have e2 := wrap_in h
  simp [execOp, ho, hρ _ _ hx, hρ _ _ hy, eqGuard, binOp, Op.shift, IntKind.bits, e, h2, e2]
theorem Run.shr {k : IntKind} (ho : o.op = .binOp .shr t x y t') (hx : ev f x = some (.int .i64 a)) (hy : ev f y = some (.int k b)) (h0 : 0 ≤ b) (h1 : b ≤ 63) : Run P o f w (.value (.int .i64 (a / 2 ^ b.toNat))) w := fun ρ hρ => by
  have e : min b.toNat 64 = b.toNat := by omega
  have h2 : ¬ b < 0 := by omega
  have e3 : a.fdiv (2 ^ b.toNat) = a / 2 ^ b.toNat := Int.fdiv_eq_ediv_of_nonneg a (by exact Int.le_of_lt (Int.pow_pos (by decide)))
  simp [execOp, ho, hρ _ _ hx, hρ _ _ hy, eqGuard, binOp, Op.shift, IntKind.bits, e, h2, e3]
end
/-! places told by a natural number -/
section
variable {P : Program} {w : World} {o : Oper} {f : Fr}
theorem Run.idxN {t e : TypeId} {x i : Operand} {A : Option Addr} {l c sz : Nat} {k : IntKind} {n : Nat} (hu : ∀ w, (underlying t).run P w = .ok (.slice e) w) (hz : ∀ w, (sizeOf e).run P w = .ok sz w) (ho : o.op = .indexAddr t x i) (hx : ev f x = some (.slice A l c)) (hi : ev f i = some (.int k ((n : Nat) : Int)))
    (hA : 0 < l → A.isSome = true) (h0 : 0 ≤ (n : Int)) (h1 : (n : Int) < l) : Run P o f w (.value (.pointer (some ((adr A).add (n * sz))))) w := by
  have := Run.idx (w := w) hu hz ho hx hi hA h0 h1
  rwa [Int.toNat_natCast] at this
theorem Run.idxBN {t e : TypeId} {x i : Operand} {b off : Nat} {l c sz : Nat} {k : IntKind} {n : Nat} (hu : ∀ w, (underlying t).run P w = .ok (.slice e) w) (hz : ∀ w, (sizeOf e).run P w = .ok sz w) (ho : o.op = .indexAddr t x i) (hx : ev f x = some (.slice (some ⟨b, off, none⟩) l c)) (hi : ev f i = some (.int k ((n : Nat) : Int)))
    (h0 : 0 ≤ (n : Int)) (h1 : (n : Int) < l) : Run P o f w (.value (.pointer (some ⟨b, off + n * sz, none⟩))) w := by
  have := Run.idxB (w := w) hu hz ho hx hi h0 h1
  rwa [Int.toNat_natCast] at this
theorem Run.idxK {t e : TypeId} {x i : Operand} {A : Option Addr} {l c sz : Nat} {k : IntKind} {m : Int} (n : Nat) (hu : ∀ w, (underlying t).run P w = .ok (.slice e) w) (hz : ∀ w, (sizeOf e).run P w = .ok sz w) (ho : o.op = .indexAddr t x i) (hx : ev f x = some (.slice A l c)) (hi : ev f i = some (.int k m))
    (hA : 0 < l → A.isSome = true) (hm : m = (n : Int)) (h1 : (n : Int) < l) : Run P o f w (.value (.pointer (some ((adr A).add (n * sz))))) w := by
  subst hm
  exact Run.idxN hu hz ho hx hi hA (Int.natCast_nonneg _) h1
theorem Run.idxStrN {t : TypeId} {x i : Operand} {s : ByteArray} {k : IntKind} {n : Nat} (hu : ∀ w, (underlying t).run P w = .ok .string w) (ho : o.op = .index t x i) (hx : ev f x = some (.string s)) (hi : ev f i = some (.int k ((n : Nat) : Int))) (h0 : 0 ≤ (n : Int)) (h : ((n : Int)).toNat < s.size) : Run P o f w (.value (.int .u8 ((sbyte s n).toNat))) w := by
  have := Run.idxStr (w := w) hu ho hx hi h0 h
  rwa [Int.toNat_natCast] at this
end
end Go.Proofs.Ytpiimkfonlijdaa
