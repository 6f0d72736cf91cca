/-
  The engine, part 3: what each kind of operation yields.
-/
import Derived.Test.YtpiimkfonlijdaaE2
namespace Go.Proofs.Ytpiimkfonlijdaa
open Go Go.RowKit
set_option linter.unusedVariables false
set_option linter.unusedSimpArgs false

abbrev i64 (n : Int) : Value := .int .i64 n
section
variable {P : Program} {o : Oper} {f : Fr} {w : World} {v : Value}
theorem Run.move {x : Operand} (ho : o.op = .move x) (hx : ev f x = some v) : Run P o f w (.value v) w := fun ρ hρ => by
  simp [execOp, ho, hρ _ _ hx]
theorem Run.assign {x : Operand} (ho : o.op = .assign x) (hx : ev f x = some v) : Run P o f w (.value v) w := fun ρ hρ => by
  simp [execOp, ho, hρ _ _ hx]
theorem Run.pick {c a b : Operand} {g x y : Bool} (ho : o.op = .pick c a b) (hc : ev f c = some (.bool g)) (ha : ev f a = some (.bool x)) (hb : ev f b = some (.bool y)) : Run P o f w (.value (.bool (bif g then x else y))) w := fun ρ hρ => by
  cases g <;> simp [execOp, ho, hρ _ _ hc, hρ _ _ ha, hρ _ _ hb, asBool]
theorem Run.pickT {c a b : Operand} {g : Bool} (ho : o.op = .pick c a b) (hc : ev f c = some (.bool g)) (hg : g = true) (ha : ev f a = some v) : Run P o f w (.value v) w := fun ρ hρ => by
  subst hg
  simp [execOp, ho, hρ _ _ hc, hρ _ _ ha, asBool]
theorem Run.pickF {c a b : Operand} {g : Bool} (ho : o.op = .pick c a b) (hc : ev f c = some (.bool g)) (hg : g = false) (ha : ev f b = some v) : Run P o f w (.value v) w := fun ρ hρ => by
  subst hg
  simp [execOp, ho, hρ _ _ hc, hρ _ _ ha, asBool]
theorem Run.not {t : TypeId} {x : Operand} {b : Bool} (ho : o.op = .unOp .not t x) (hx : ev f x = some (.bool b)) : Run P o f w (.value (.bool (!b))) w := fun ρ hρ => by
  simp [execOp, ho, hρ _ _ hx, Op.unary]
theorem Run.neg {t : TypeId} {x : Operand} {k : IntKind} {a : Int} (ho : o.op = .unOp .neg t x) (hx : ev f x = some (.int k a)) (h : k.wrap (0 - a) = -a) : Run P o f w (.value (.int k (-a))) w := fun ρ hρ => by
  simp [execOp, ho, hρ _ _ hx, Op.unary, Op.intArith]
  simpa using h
section
variable {t t' : TypeId} {x y : Operand} {k : IntKind} {a b : Int}
theorem Run.lss (ho : o.op = .binOp .lss t x y t') (hx : ev f x = some (.int k a)) (hy : ev f y = some (.int k b)) : Run P o f w (.value (.bool (decide (a < b)))) w := fun ρ hρ => by
  simp [execOp, ho, hρ _ _ hx, hρ _ _ hy, eqGuard, binOp, Op.intCmp]
theorem Run.leq (ho : o.op = .binOp .leq t x y t') (hx : ev f x = some (.int k a)) (hy : ev f y = some (.int k b)) : Run P o f w (.value (.bool (decide (a ≤ b)))) w := fun ρ hρ => by
  simp [execOp, ho, hρ _ _ hx, hρ _ _ hy, eqGuard, binOp, Op.intCmp]
theorem Run.gtr (ho : o.op = .binOp .gtr t x y t') (hx : ev f x = some (.int k a)) (hy : ev f y = some (.int k b)) : Run P o f w (.value (.bool (decide (b < a)))) w := fun ρ hρ => by
  simp [execOp, ho, hρ _ _ hx, hρ _ _ hy, eqGuard, binOp, Op.intCmp]
theorem Run.geq (ho : o.op = .binOp .geq t x y t') (hx : ev f x = some (.int k a)) (hy : ev f y = some (.int k b)) : Run P o f w (.value (.bool (decide (b ≤ a)))) w := fun ρ hρ => by
  simp [execOp, ho, hρ _ _ hx, hρ _ _ hy, eqGuard, binOp, Op.intCmp]
theorem Run.eql (ho : o.op = .binOp .eql t x y t') (hx : ev f x = some (.int k a)) (hy : ev f y = some (.int k b)) : Run P o f w (.value (.bool (decide (a = b)))) w := fun ρ hρ => by
  simp [execOp, ho, hρ _ _ hx, hρ _ _ hy, eqGuard, binOp, Op.intCmp]
  rfl
theorem Run.neq (ho : o.op = .binOp .neq t x y t') (hx : ev f x = some (.int k a)) (hy : ev f y = some (.int k b)) : Run P o f w (.value (.bool (!decide (a = b)))) w := fun ρ hρ => by
  simp [execOp, ho, hρ _ _ hx, hρ _ _ hy, eqGuard, binOp, Op.intCmp]
  rfl
theorem Run.addW (ho : o.op = .binOp .add t x y t') (hx : ev f x = some (.int k a)) (hy : ev f y = some (.int k b)) : Run P o f w (.value (.int k (k.wrap (a + b)))) w := fun ρ hρ => by
  simp [execOp, ho, hρ _ _ hx, hρ _ _ hy, eqGuard, binOp, Op.intArith]
theorem Run.subW (ho : o.op = .binOp .sub t x y t') (hx : ev f x = some (.int k a)) (hy : ev f y = some (.int k b)) : Run P o f w (.value (.int k (k.wrap (a - b)))) w := fun ρ hρ => by
  simp [execOp, ho, hρ _ _ hx, hρ _ _ hy, eqGuard, binOp, Op.intArith]
theorem Run.mulW (ho : o.op = .binOp .mul t x y t') (hx : ev f x = some (.int k a)) (hy : ev f y = some (.int k b)) : Run P o f w (.value (.int k (k.wrap (a * b)))) w := fun ρ hρ => by
  simp [execOp, ho, hρ _ _ hx, hρ _ _ hy, eqGuard, binOp, Op.intArith]
end
/-- Within int's bounds. -/
abbrev In64 (a : Int) : Prop := -9223372036854775808 ≤ a ∧ a ≤ 9223372036854775807
theorem wrap_in {a : Int} (h : In64 a) : IntKind.i64.wrap a = a := IntWalk.i64_in a h
section
variable {t t' : TypeId} {x y : Operand} {a b : Int}
theorem Run.add (ho : o.op = .binOp .add t x y t') (hx : ev f x = some (.int .i64 a)) (hy : ev f y = some (.int .i64 b)) (h : In64 (a + b)) : Run P o f w (.value (.int .i64 (a + b))) w := by
  have := Run.addW (P := P) (w := w) ho hx hy
  rwa [wrap_in h] at this
theorem Run.sub (ho : o.op = .binOp .sub t x y t') (hx : ev f x = some (.int .i64 a)) (hy : ev f y = some (.int .i64 b)) (h : In64 (a - b)) : Run P o f w (.value (.int .i64 (a - b))) w := by
  have := Run.subW (P := P) (w := w) ho hx hy
  rwa [wrap_in h] at this
theorem Run.mul (ho : o.op = .binOp .mul t x y t') (hx : ev f x = some (.int .i64 a)) (hy : ev f y = some (.int .i64 b)) (h : In64 (a * b)) : Run P o f w (.value (.int .i64 (a * b))) w := by
  have := Run.mulW (P := P) (w := w) ho hx hy
  rwa [wrap_in h] at this
theorem Run.quo (ho : o.op = .binOp .quo t x y t') (hx : ev f x = some (.int .i64 a)) (hy : ev f y = some (.int .i64 b)) (h0 : 0 ≤ a) (h1 : 0 < b) (h : a ≤ 9223372036854775807) : Run P o f w (.value (.int .i64 (a / b))) w := fun ρ hρ => by
  have hb : b ≠ 0 := by omega
  have e : IntKind.i64.wrap (a.tdiv b) = a / b := by
    rw [Int.tdiv_eq_ediv_of_nonneg h0]
    refine wrap_in ⟨?_, ?_⟩
    · have := Int.ediv_nonneg h0 (Int.le_of_lt h1); omega
    · exact Int.le_trans (Int.ediv_le_self b h0) h
  simp [execOp, ho, hρ _ _ hx, hρ _ _ hy, eqGuard, binOp, Op.intDiv, hb, e]
theorem Run.rem (ho : o.op = .binOp .rem t x y t') (hx : ev f x = some (.int .i64 a)) (hy : ev f y = some (.int .i64 b)) (h0 : 0 ≤ a) (h1 : 0 < b) : Run P o f w (.value (.int .i64 (a % b))) w := fun ρ hρ => by
  have hb : b ≠ 0 := by omega
  have e : a.tmod b = a % b := Int.tmod_eq_emod_of_nonneg h0
  simp [execOp, ho, hρ _ _ hx, hρ _ _ hy, eqGuard, binOp, Op.intDiv, hb, e]
theorem Run.quoT (ho : o.op = .binOp .quo t x y t') (hx : ev f x = some (.int .i64 a)) (hy : ev f y = some (.int .i64 b)) (h1 : b ≠ 0) : Run P o f w (.value (.int .i64 (IntKind.i64.wrap (a.tdiv b)))) w := fun ρ hρ => by
  simp [execOp, ho, hρ _ _ hx, hρ _ _ hy, eqGuard, binOp, Op.intDiv, h1]
theorem Run.remT (ho : o.op = .binOp .rem t x y t') (hx : ev f x = some (.int .i64 a)) (hy : ev f y = some (.int .i64 b)) (h1 : b ≠ 0) : Run P o f w (.value (.int .i64 (a.tmod b))) w := fun ρ hρ => by
  simp [execOp, ho, hρ _ _ hx, hρ _ _ hy, eqGuard, binOp, Op.intDiv, h1]
end
section
variable {t t' : TypeId} {x y : Operand} {a b : ByteArray}
theorem toList_inj {a b : ByteArray} : (a.toList == b.toList) = decide (a = b) := by
  rw [ByteArray.toList_eq, ByteArray.toList_eq, Bool.eq_iff_iff]
  simp only [beq_iff_eq, decide_eq_true_eq]
  constructor
  · intro h
    have := Array.toList_inj.1 h
    cases a; cases b
    simp_all
  · rintro rfl
    rfl
theorem Run.eqlS (ho : o.op = .binOp .eql t x y t') (hx : ev f x = some (.string a)) (hy : ev f y = some (.string b)) : Run P o f w (.value (.bool (decide (a = b)))) w := fun ρ hρ => by
  rw [← toList_inj]
  simp [execOp, ho, hρ _ _ hx, hρ _ _ hy, eqGuard, binOp, Op.stringOp]
theorem Run.neqS (ho : o.op = .binOp .neq t x y t') (hx : ev f x = some (.string a)) (hy : ev f y = some (.string b)) : Run P o f w (.value (.bool (!decide (a = b)))) w := fun ρ hρ => by
  rw [← toList_inj]
  simp [execOp, ho, hρ _ _ hx, hρ _ _ hy, eqGuard, binOp, Op.stringOp]
end
theorem equalIn_bool {t : TypeId} {a b : Bool} (d : Nat) (hu : ∀ w, (underlying t).run P w = .ok .bool w) : (Op.equalIn (d + 1) t (.bool a) (.bool b)).run P w = .ok (a == b) w := by
  rw [Op.equalIn]
  simp [hu]
theorem equal_bool {t : TypeId} {a b : Bool} (hu : ∀ w, (underlying t).run P w = .ok .bool w) : (Op.equal t (.bool a) (.bool b)).run P w = .ok (a == b) w := equalIn_bool 9999 hu
theorem Run.eqlB {t t' : TypeId} {x y : Operand} {a b : Bool} (hu : ∀ w, (underlying t).run P w = .ok .bool w) (ho : o.op = .binOp .eql t x y t') (hx : ev f x = some (.bool a)) (hy : ev f y = some (.bool b)) : Run P o f w (.value (.bool (a == b))) w := fun ρ hρ => by
  simp [execOp, ho, hρ _ _ hx, hρ _ _ hy, eqGuard, binOp, equal_bool hu]
theorem Run.neqB {t t' : TypeId} {x y : Operand} {a b : Bool} (hu : ∀ w, (underlying t).run P w = .ok .bool w) (ho : o.op = .binOp .neq t x y t') (hx : ev f x = some (.bool a)) (hy : ev f y = some (.bool b)) : Run P o f w (.value (.bool (!(a == b)))) w := fun ρ hρ => by
  simp [execOp, ho, hρ _ _ hx, hρ _ _ hy, eqGuard, binOp, equal_bool hu]
theorem neg_in {a : Int} (h : In64 (-a)) : IntKind.i64.wrap (0 - a) = -a := by rw [Int.zero_sub]; exact wrap_in h
theorem Run.conv {s d : TypeId} {x : Operand} {k k' : IntKind} {a : Int} (hs : ∀ w, (underlying s).run P w = .ok (.int k') w) (hd : ∀ w, (underlying d).run P w = .ok (.int k) w) (ho : o.op = .convert s d x) (hx : ev f x = some (.int k' a)) : Run P o f w (.value (.int k (k.wrap a))) w := fun ρ hρ => by
  simp [execOp, ho, hρ _ _ hx, convert, hs, hd, Conv.intToInt]
theorem Run.lenStr {t : TypeId} {x : Operand} {s : ByteArray} (hu : ∀ w, (underlying t).run P w = .ok .string w) (ho : o.op = .call { callee := .builtin .len, args := #[x], argTypes := #[t] }) (hx : ev f x = some (.string s)) : Run P o f w (.value (.int .i64 s.size)) w := fun ρ hρ => by
  simp [execOp, ho, hρ _ _ hx, resolve, invoke, builtin, Builtin.len_, hu, goInt]
theorem Run.lenSl {t e : TypeId} {x : Operand} {a : Option Addr} {l c : Nat} (hu : ∀ w, (underlying t).run P w = .ok (.slice e) w) (ho : o.op = .call { callee := .builtin .len, args := #[x], argTypes := #[t] }) (hx : ev f x = some (.slice a l c)) : Run P o f w (.value (.int .i64 l)) w := fun ρ hρ => by
  simp [execOp, ho, hρ _ _ hx, resolve, invoke, builtin, Builtin.len_, hu, goInt]
theorem Run.extract {x : Operand} {i : Nat} {vs : Array Value} (ho : o.op = .extract x i) (hx : ev f x = some (.tuple vs)) (hv : vs.toList[i]? = some v) : Run P o f w (.value v) w := fun ρ hρ => by
  have : vs[i]? = some v := by simpa using hv
  simp [execOp, ho, hρ _ _ hx, Instr.extract, this]
/-- A string's byte. -/
def sbyte (s : ByteArray) (k : Nat) : UInt8 := s.data.toList.getD k 0
theorem Run.idxStr {t : TypeId} {x i : Operand} {s : ByteArray} {k : IntKind} {n : Int} (hu : ∀ w, (underlying t).run P w = .ok .string w) (ho : o.op = .index t x i) (hx : ev f x = some (.string s)) (hi : ev f i = some (.int k n)) (h0 : 0 ≤ n) (h : n.toNat < s.size) : Run P o f w (.value (.int .u8 ((sbyte s n.toNat).toNat))) w := fun ρ hρ => by
  have e : s[n.toNat]? = some s[n.toNat] := getElem?_pos s n.toNat h
  have e2 : sbyte s n.toNat = s[n.toNat] := by
    unfold sbyte
    have : n.toNat < s.data.toList.length := by simpa using h
    rw [List.getD_eq_getElem?_getD, List.getElem?_eq_getElem this]
    rfl
  rw [e2]
  simp [execOp, ho, hρ _ _ hx, hρ _ _ hi, Instr.index, hu, asIntOf, h0, e]
/-- Several operands. -/
def evs (f : Fr) : List Operand → Option (List Value)
  | [] => some []
  | x :: r => match ev f x, evs f r with
    | some v, some vs => some (v :: vs)
    | _, _ => none
theorem evs_map {f : Fr} {ρ : Operand → Value} (hρ : ∀ x v, ev f x = some v → ρ x = v) : ∀ {xs : List Operand} {vs : List Value}, evs f xs = some vs → xs.map ρ = vs
  | [], vs, h => by simp [evs] at h; subst h; rfl
  | x :: r, vs, h => by
    unfold evs at h
    split at h
    · rename_i v us h1 h2
      cases h
      rw [List.map_cons, hρ _ _ h1, evs_map hρ h2]
    · cases h
theorem Run.ext {fo : Operand} {args : Array Operand} {ts : Array TypeId} {g : FuncId} {vl : List Value} (hc : ∀ w, (callFunc g vl.toArray).run P w = .ok (.value v) w) (ho : o.op = .call { callee := .value fo, args := args, argTypes := ts })
    (hfo : ev f fo = some (.func (.func g) #[] #[])) (hv : evs f args.toList = some vl) : Run P o f w (.value v) w := fun ρ hρ => by
  have e : args.map ρ = vl.toArray := by apply Array.toList_inj.1; rw [Array.toList_map, evs_map hρ hv]
  simp [execOp, ho, resolve, hρ _ _ hfo, Deferred.ofValue, invoke, hc, e]
/-- The place of a field. -/
theorem Run.field {s : TypeId} {x : Operand} {fs : Array Field} {i : Nat} {fd : Field} {sz : Nat} {b off : Nat} (hu : ∀ w, (underlying s).run P w = .ok (.struct fs) w) (ho : o.op = .fieldAddr s x i) (hx : ev f x = some (.pointer (some ⟨b, off, none⟩)))
    (hf : fs.toList[i]? = some fd) (hz : ∀ w, (sizeOf fd.type).run P w = .ok sz w) (hs : Nat.beq sz 0 = false) : Run P o f w (.value (.pointer (some ⟨b, off + fd.offset, none⟩))) w := fun ρ hρ => by
  have hf' : fs[i]? = some fd := by simpa using hf
  have hs' : ¬ sz = 0 := by rintro rfl; simp at hs
  simp [execOp, ho, hρ _ _ hx, Instr.fieldAt, hu, hf', Instr.sureAddr, fieldPlace, hz, hs', Addr.add]
theorem Run.fieldO {s : TypeId} {x : Operand} {fs : Array Field} {i : Nat} {fd : Field} {sz : Nat} {a : Addr} (hu : ∀ w, (underlying s).run P w = .ok (.struct fs) w) (ho : o.op = .fieldAddr s x i) (hx : ev f x = some (.pointer (some a)))
    (hf : fs.toList[i]? = some fd) (hz : ∀ w, (sizeOf fd.type).run P w = .ok sz w) (hs : Nat.beq sz 0 = false) : Run P o f w (.value (.pointer (some (a.add fd.offset)))) w := fun ρ hρ => by
  have hf' : fs[i]? = some fd := by simpa using hf
  have hs' : ¬ sz = 0 := by rintro rfl; simp at hs
  simp [execOp, ho, hρ _ _ hx, Instr.fieldAt, hu, hf', Instr.sureAddr, fieldPlace, hz, hs']
theorem Addr.add_add' (a : Addr) (i j : Nat) : (a.add i).add j = a.add (i + j) := by
  unfold Addr.add
  by_cases hi : i = 0 <;> by_cases hj : j = 0 <;> simp [hi, hj, Nat.add_assoc]
theorem Run.fieldE {s : TypeId} {x : Operand} {fs : Array Field} {i k : Nat} {fd : Field} {sz : Nat} {a : Addr} (hu : ∀ w, (underlying s).run P w = .ok (.struct fs) w) (ho : o.op = .fieldAddr s x i) (hx : ev f x = some (.pointer (some (a.add k))))
    (hf : fs.toList[i]? = some fd) (hz : ∀ w, (sizeOf fd.type).run P w = .ok sz w) (hs : Nat.beq sz 0 = false) : Run P o f w (.value (.pointer (some (a.add (k + fd.offset))))) w := by
  have := Run.fieldO (P := P) (w := w) hu ho hx hf hz hs
  rwa [Addr.add_add'] at this
/-- Where a slice begins. -/
def adr (A : Option Addr) : Addr := A.getD ⟨0, 0, none⟩
theorem Run.idx {t e : TypeId} {x i : Operand} {A : Option Addr} {l c sz : Nat} {k : IntKind} {n : Int} (hu : ∀ w, (underlying t).run P w = .ok (.slice e) w) (hz : ∀ w, (sizeOf e).run P w = .ok sz w) (ho : o.op = .indexAddr t x i) (hx : ev f x = some (.slice A l c)) (hi : ev f i = some (.int k n))
    (hA : 0 < l → A.isSome = true) (h0 : 0 ≤ n) (h1 : n < l) : Run P o f w (.value (.pointer (some ((adr A).add (n.toNat * sz))))) w := fun ρ hρ => by
  obtain ⟨a, rfl⟩ := Option.isSome_iff_exists.1 (hA (by omega))
  simp [execOp, ho, hρ _ _ hx, hρ _ _ hi, Instr.indexAt, hu, hz, asIntOf, h0, h1, adr]
/-- A place in a slice that begins in a block that is known. -/
theorem Run.idxB {t e : TypeId} {x i : Operand} {b off : Nat} {l c sz : Nat} {k : IntKind} {n : Int} (hu : ∀ w, (underlying t).run P w = .ok (.slice e) w) (hz : ∀ w, (sizeOf e).run P w = .ok sz w) (ho : o.op = .indexAddr t x i) (hx : ev f x = some (.slice (some ⟨b, off, none⟩) l c)) (hi : ev f i = some (.int k n))
    (h0 : 0 ≤ n) (h1 : n < l) : Run P o f w (.value (.pointer (some ⟨b, off + n.toNat * sz, none⟩))) w := fun ρ hρ => by
  have e1 : (⟨b, off, none⟩ : Addr).add (n.toNat * sz) = ⟨b, off + n.toNat * sz, none⟩ := by unfold Addr.add; split <;> simp_all
  simp [execOp, ho, hρ _ _ hx, hρ _ _ hi, Instr.indexAt, hu, hz, asIntOf, h0, h1, e1]
theorem Run.call {fo : Operand} {args : Array Operand} {ts : Array TypeId} {g : FuncId} {vl : List Value} (hc : ∀ args w, (callFunc g args).run P w = .ok (.enter g args) w) (ho : o.op = .call { callee := .value fo, args := args, argTypes := ts })
    (hfo : ev f fo = some (.func (.func g) #[] #[])) (hv : evs f args.toList = some vl) : Run P o f w (.enter g vl.toArray) w := fun ρ hρ => by
  have e : args.map ρ = vl.toArray := by apply Array.toList_inj.1; rw [Array.toList_map, evs_map hρ hv]
  simp [execOp, ho, resolve, hρ _ _ hfo, Deferred.ofValue, invoke, hc, e]
/-- A call of a function value that has captured something. -/
theorem Run.callC {fo : Operand} {args : Array Operand} {ts : Array TypeId} {g : FuncId} {vl cl : List Value} (hc : ∀ args w, (callFunc g args).run P w = .ok (.enter g args) w) (ho : o.op = .call { callee := .value fo, args := args, argTypes := ts })
    (hfo : ev f fo = some (.func (.func g) #[] cl.toArray)) (hv : evs f args.toList = some vl) : Run P o f w (.enter g (vl ++ cl).toArray) w := fun ρ hρ => by
  have e : args.map ρ = vl.toArray := by apply Array.toList_inj.1; rw [Array.toList_map, evs_map hρ hv]
  simp [execOp, ho, resolve, hρ _ _ hfo, Deferred.ofValue, invoke, hc, e]
end
end Go.Proofs.Ytpiimkfonlijdaa
