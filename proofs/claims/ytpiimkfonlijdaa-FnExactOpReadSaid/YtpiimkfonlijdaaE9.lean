/-
  The engine, part 9: slices of slices, slices of strings.
-/
import Derived.Test.YtpiimkfonlijdaaE8
namespace Go.Proofs.Ytpiimkfonlijdaa
open Go Go.RowKit
set_option linter.unusedVariables false
set_option linter.unusedSimpArgs false

/-- Where a part of a slice begins. -/
def cutA (A : Option Addr) (lo sz c : Nat) : Option Addr := if c = lo then A else A.map (·.add (lo * sz))
theorem SlF.cutC {α : Type} {F : Enc α} {w : World} {A : Option Addr} {n lo hi c : Nat} {xs : List α} (h : SlF F w A n xs) (hc : lo ≤ hi ∧ hi ≤ n ∧ n ≤ c) : SlF F w (cutA A lo F.sz c) (hi - lo) ((xs.drop lo).take (hi - lo)) := by
  obtain ⟨h1, h2, h3⟩ := hc
  have hl := h.len
  refine ⟨by rw [List.length_take, List.length_drop]; omega, ?_⟩
  unfold cutA
  split
  · rename_i e
    have : hi - lo = 0 := by omega
    rw [this]
    simp only [List.take_zero]
    exact SlR.nil _ _ _
  · have := h.rd.cut h1 h2
    rw [rows_drop, rows_take] at this
    exact this
theorem SlF.cutL {α : Type} {F : Enc α} {w : World} {A : Option Addr} {n c : Nat} {xs : List α} (lo : Nat) (h : SlF F w A n xs) (hc : lo ≤ n ∧ n ≤ n ∧ n ≤ c) : SlF F w (cutA A lo F.sz c) (n - lo) (xs.drop lo) := by
  have := h.cutC hc
  rwa [List.take_of_length_le (by rw [List.length_drop, h.len]; exact Nat.le_refl _)] at this
theorem SlF.cutH {α : Type} {F : Enc α} {w : World} {A : Option Addr} {n c : Nat} {xs : List α} (hi : Nat) (h : SlF F w A n xs) (hc : 0 ≤ hi ∧ hi ≤ n ∧ n ≤ c) : SlF F w (cutA A 0 F.sz c) (hi - 0) (xs.take hi) := by
  have := h.cutC hc
  rwa [List.drop_zero] at this
section
variable {P : Program} {w : World} {o : Oper} {f : Fr} {t e : TypeId} {x y z : Operand} {A : Option Addr} {n c sz lo hi : Nat} {k k' : IntKind} {a b : Int}
theorem Run.sliceLH (lo hi : Nat) (hu : ∀ w, (underlying t).run P w = .ok (.slice e) w) (hz : ∀ w, (sizeOf e).run P w = .ok sz w) (ho : o.op = .slice t x (some y) (some z) none) (hx : ev f x = some (.slice A n c)) (hy : ev f y = some (.int k a)) (hw : ev f z = some (.int k' b))
    (ha : a = (lo : Int)) (hb : b = (hi : Int)) (h : lo ≤ hi ∧ hi ≤ n ∧ n ≤ c) : Run P o f w (.value (.slice (cutA A lo sz c) (hi - lo) (c - lo))) w := fun ρ hρ => by
  subst ha hb
  have h1 : lo ≤ hi := by omega
  have h2 : hi ≤ c := by omega
  simp [execOp, ho, hρ _ _ hx, hρ _ _ hy, hρ _ _ hw, Instr.sliceAt, Instr.slice, Instr.sliceBounds, Instr.sliceBound, asIntOf, hu, hz, cutA, h1, h2]
theorem Run.sliceL (lo : Nat) (hu : ∀ w, (underlying t).run P w = .ok (.slice e) w) (hz : ∀ w, (sizeOf e).run P w = .ok sz w) (ho : o.op = .slice t x (some y) none none) (hx : ev f x = some (.slice A n c)) (hy : ev f y = some (.int k a))
    (ha : a = (lo : Int)) (h : lo ≤ n ∧ n ≤ n ∧ n ≤ c) : Run P o f w (.value (.slice (cutA A lo sz c) (n - lo) (c - lo))) w := fun ρ hρ => by
  subst ha
  have h1 : lo ≤ n := by omega
  simp [execOp, ho, hρ _ _ hx, hρ _ _ hy, Instr.sliceAt, Instr.slice, Instr.sliceBounds, Instr.sliceBound, asIntOf, hu, hz, cutA, h1]
theorem Run.sliceH (hi : Nat) (hu : ∀ w, (underlying t).run P w = .ok (.slice e) w) (hz : ∀ w, (sizeOf e).run P w = .ok sz w) (ho : o.op = .slice t x none (some z) none) (hx : ev f x = some (.slice A n c)) (hw : ev f z = some (.int k' b))
    (hb : b = (hi : Int)) (h : 0 ≤ hi ∧ hi ≤ n ∧ n ≤ c) : Run P o f w (.value (.slice (cutA A 0 sz c) (hi - 0) (c - 0))) w := fun ρ hρ => by
  subst hb
  have h2 : hi ≤ c := by omega
  simp [execOp, ho, hρ _ _ hx, hρ _ _ hw, Instr.sliceAt, Instr.slice, Instr.sliceBounds, Instr.sliceBound, asIntOf, hu, hz, cutA, h2]
theorem cutA_zero {A : Option Addr} {sz c : Nat} : cutA A 0 sz c = A := by
  unfold cutA
  split
  · rfl
  · cases A with
    | none => rfl
    | some a =>
      simp only [Option.map_some, Nat.zero_mul]
      unfold Addr.add
      split <;> simp_all
/-- The first part of a slice, as a slice that begins at the same place. -/
theorem Run.sliceH0 (hi : Nat) (hu : ∀ w, (underlying t).run P w = .ok (.slice e) w) (hz : ∀ w, (sizeOf e).run P w = .ok sz w) (ho : o.op = .slice t x none (some z) none) (hx : ev f x = some (.slice A n c)) (hw : ev f z = some (.int k' b))
    (hb : b = (hi : Int)) (h : hi ≤ c) : Run P o f w (.value (.slice A hi c)) w := fun ρ hρ => by
  subst hb
  have h2 : hi ≤ c := by omega
  have := @cutA_zero A sz c
  unfold cutA at this
  simp [execOp, ho, hρ _ _ hx, hρ _ _ hw, Instr.sliceAt, Instr.slice, Instr.sliceBounds, Instr.sliceBound, asIntOf, hu, hz, h2]
  simpa using this
theorem Run.sliceStr (lo hi : Nat) {s : ByteArray} (hu : ∀ w, (underlying t).run P w = .ok .string w) (ho : o.op = .slice t x (some y) (some z) none) (hx : ev f x = some (.string s)) (hy : ev f y = some (.int k a)) (hw : ev f z = some (.int k' b))
    (ha : a = (lo : Int)) (hb : b = (hi : Int)) (h : lo ≤ hi ∧ hi ≤ s.size) : Run P o f w (.value (.string (s.extract lo hi))) w := fun ρ hρ => by
  subst ha hb
  have h1 : lo ≤ hi := by omega
  have h2 : hi ≤ s.size := by omega
  simp [execOp, ho, hρ _ _ hx, hρ _ _ hy, hρ _ _ hw, Instr.sliceAt, Instr.slice, Instr.sliceBounds, Instr.sliceBound, asIntOf, hu, h1, h2]
end
/-! the first part of what is ours; functions that hold something; nil -/
section
variable {α : Type} {F : Enc α} {e : TypeId} {xs : List α} {L : Hp} {A : Option Addr} {n c k : Nat}
theorem OwnF.nilA (F : Enc α) (e : TypeId) (A : Option Addr) : OwnF F e (.slice A 0 0) [] [] := Own.nilA e F.sz A
theorem OwnF.take (h : OwnF F e (.slice A n c) xs L) (hk : k ≤ n) : OwnF F e (.slice A k c) (xs.take k) L := by
  have hl := h.len_
  have hk' : (xs.take k).length = k := by rw [List.length_take]; omega
  rcases h.2 with ⟨⟨A', hv⟩, h0, rfl⟩ | ⟨g, cap, cl, fz, hv, rfl, hn, hc, hcl, ht, hfz⟩
  · cases hv
    obtain rfl : k = 0 := by omega
    exact OwnF.nilA F e A
  · cases hv
    refine ⟨by rw [rows_len], .inr ⟨g, c, cl, fz, by rw [hk'], rfl, by rw [hk']; omega, hc, hcl, ?_, hfz⟩⟩
    have h1 : k * F.sz ≤ xs.length * F.sz := Nat.mul_le_mul_right _ (by omega)
    rw [hk', ← rows_take, ← ht, List.take_take, Nat.min_eq_left h1]
theorem OwnF.cap (h : OwnF F e (.slice A n c) xs L) : n ≤ c := by
  have hl := h.len_
  rcases h.2 with ⟨⟨A', hv⟩, h0, rfl⟩ | ⟨g, cap, cl, fz, hv, rfl, hn, _⟩
  · omega
  · cases hv
    omega
/-- What a store of some elements does to a slice of ours. -/
theorem OwnF.updR {i : Nat} {ys : List α} (h : OwnF F e (.slice A n c) xs L) (h0 : 0 < n) (hi : i + ys.length ≤ n) : ∃ (g : Nat) (cl : List Value) (lo hi : Nat), A = some ⟨g, 0, none⟩ ∧ L = [(g, .cells cl.toArray e (lo, hi))] ∧ (hi ≤ lo ∨ cl.length ≤ lo) ∧ (i + ys.length) * F.sz ≤ cl.length ∧
    ∀ (cl' : List Value), cl' = cl.take (i * F.sz) ++ rows F ys ++ cl.drop ((i + ys.length) * F.sz) → OwnF F e (.slice A n c) (xs.take i ++ ys ++ xs.drop (i + ys.length)) [(g, .cells cl'.toArray e (lo, hi))] := by
  have hl := h.len_
  rcases h.2 with ⟨⟨A', hv⟩, h0', rfl⟩ | ⟨g, cap, cl, ⟨lo, hi'⟩, hv, rfl, hn, hc, hcl, ht, hfz⟩
  · omega
  · cases hv
    have h1 : (i + ys.length) * F.sz ≤ xs.length * F.sz := Nat.mul_le_mul_right _ (by omega)
    have h2 : xs.length * F.sz ≤ c * F.sz := Nat.mul_le_mul_right _ hn
    have h3 : i * F.sz ≤ (i + ys.length) * F.sz := Nat.mul_le_mul_right _ (by omega)
    refine ⟨g, cl, lo, hi', rfl, rfl, hfz, by omega, ?_⟩
    intro cl' hcl'
    have hly : (rows F ys).length = ys.length * F.sz := rows_len ys
    have hadd : (i + ys.length) * F.sz = i * F.sz + ys.length * F.sz := Nat.add_mul _ _ _
    have hlen' : cl'.length = cl.length := by
      rw [hcl']; simp only [List.length_append, List.length_take, List.length_drop, hly]; omega
    have hlx : (xs.take i ++ ys ++ xs.drop (i + ys.length)).length = xs.length := by
      simp only [List.length_append, List.length_take, List.length_drop]; omega
    refine ⟨by rw [rows_len], .inr ⟨g, c, cl', (lo, hi'), by rw [hlx], rfl, by rw [hlx]; exact hn, hc, by rw [hlen', hcl], ?_, by rw [hlen']; exact hfz⟩⟩
    rw [hlx, hcl', rows_append, rows_append, ← rows_take, ← rows_drop, ← ht, List.take_take, Nat.min_eq_left (by omega), List.drop_take]
    have e3 : (cl.take (i * F.sz) ++ rows F ys).length = (i + ys.length) * F.sz := by
      rw [List.length_append, List.length_take, hly]; omega
    rw [List.take_append, e3, List.take_of_length_le (by rw [e3]; exact h1)]
end
section
variable {P : Program} {w : World} {o : Oper} {f : Fr} {t e : TypeId} {x y : Operand} {A : Option Addr} {n c : Nat}
theorem equalIn_nil {d : Nat} {w : World} (hu : P.underlying t = some (.slice e)) : (Op.equalIn (d + 1) t (.slice A n c) (.slice none 0 0)).run P w = .ok A.isNone w := by
  cases A <;> simp [Op.equalIn, run_underlying hu]
theorem Run.eqlNil {t' : TypeId} (hu : P.underlying t = some (.slice e)) (ho : o.op = .binOp .eql t x y t') (hx : ev f x = some (.slice A n c)) (hy : ev f y = some (.slice none 0 0)) : Run P o f w (.value (.bool A.isNone)) w := fun ρ hρ => by
  have h1 : (binOp .eql t (.slice A n c) (.slice none 0 0)).run P w = .ok (.bool A.isNone) w := by
    simp only [binOp]
    simp [Op.equal, Op.maxDepth, equalIn_nil hu]
  simp [execOp, ho, hρ _ _ hx, hρ _ _ hy, eqGuard, h1]
theorem Run.neqNil {t' : TypeId} (hu : P.underlying t = some (.slice e)) (ho : o.op = .binOp .neq t x y t') (hx : ev f x = some (.slice A n c)) (hy : ev f y = some (.slice none 0 0)) : Run P o f w (.value (.bool (!A.isNone))) w := fun ρ hρ => by
  have h1 : (binOp .neq t (.slice A n c) (.slice none 0 0)).run P w = .ok (.bool (!A.isNone)) w := by
    simp only [binOp]
    simp [Op.equal, Op.maxDepth, equalIn_nil hu]
  simp [execOp, ho, hρ _ _ hx, hρ _ _ hy, eqGuard, h1]
theorem Run.makeFunc {fn : Fn} {caps : Array Operand} {vl : List Value} (ho : o.op = .makeFunc fn #[] caps) (hv : evs f caps.toList = some vl) : Run P o f w (.value (.func fn #[] vl.toArray)) w := fun ρ hρ => by
  have e : caps.map ρ = vl.toArray := by apply Array.toList_inj.1; rw [Array.toList_map, evs_map hρ hv]
  simp [execOp, ho, Instr.makeFunc, e]
theorem Run.capSl (hu : ∀ w, (underlying t).run P w = .ok (.slice e) w) (ho : o.op = .call { callee := .builtin .cap, args := #[x], argTypes := #[t] }) (hx : ev f x = some (.slice A n c)) : Run P o f w (.value (.int .i64 c)) w := fun ρ hρ => by
  simp [execOp, ho, hρ _ _ hx, resolve, invoke, builtin, Builtin.cap_, hu, goInt]
end
section
variable {P : Program} {n : Nat} {ol rest : List Oper} {o : Oper} {K : Fr → World → Prop} {f : Fr} {w0 w w' : World} {T : List Nat} {L : Hp} {d : Nat} {v : Value} {α : Type} {F : Enc α}
theorem WL.eff (hw : want ol o f = some true) (hd : o.dst = none) (hy : Run P o f w (.value v) w') (k : WL P n ol rest K f w') : WL P n ol (o :: rest) K f w := fun Q a ha hk => by
  unfold wpList
  rw [if_pos (want_eq ha hw)]
  refine .inl ?_
  unfold Oper.wp
  rw [hy a.eval fun x v hx => ha.ev hx]
  show wpList _ _ _ _ _ _
  rw [hd]
  exact k Q _ ha hk
theorem zeros_rows {z : Value} {k : Nat} (h : cellsOf z = F.enc F.dflt) : Builtin.zeroCells z.cells k = (rows F (List.replicate k F.dflt)).toArray := by
  apply Array.toList_inj.1
  have e0 : z.cells = (F.enc F.dflt).toArray := by rw [cellsOf_eq, h]
  have e1 := madeCells_list (F.enc F.dflt) k
  have e2 : (F.enc F.dflt).toArray.size = (F.enc F.dflt).length := by simp
  rw [rows, List.flatMap_def, List.map_replicate]
  show (Builtin.zeroCells z.cells k).toList = _
  rw [← e1, e0]
  simp [Builtin.zeroCells, madeCells]
/-- Sets the rest of a slice of ours to zero. -/
theorem WL.clearF {L1 R : Hp} {xs : List α} {A : Option Addr} {m c lo : Nat} {e t : TypeId} {z : Value} {x : Operand} (hst : St w0 T (L1 ++ R) w) (hown : OwnF F e (.slice A m c) xs L1) (ht : P.underlying t = some (.slice e)) (hzv : ∀ w, (zeroValue e).run P w = .ok z w) (hz : cellsOf z = F.enc F.dflt)
    (ho : o.op = .call { callee := .builtin .clear, args := #[x], argTypes := #[t] }) (hw : want ol o f = some true) (hd : o.dst = none) (hx : ev f x = some (.slice (cutA A lo F.sz c) (m - lo) (c - lo))) (hlo : lo ≤ m)
    (k : ∀ L1' w', St w0 T (L1' ++ R) w' → OwnF F e (.slice A m c) (xs.take lo ++ List.replicate (m - lo) F.dflt) L1' → L1'.map (·.1) = L1.map (·.1) → WL P n ol rest K f w') : WL P n ol (o :: rest) K f w := by
  have hl := hown.len_
  by_cases h0 : m - lo = 0
  · have e1 : xs.take lo = xs := List.take_of_length_le (by omega)
    refine WL.eff (w' := w) (v := .tuple #[]) hw hd (fun ρ hρ => ?_) (k L1 w hst (by rw [e1, h0]; simpa using hown) rfl)
    rw [h0] at hx
    simp [execOp, ho, hρ _ _ hx, resolve, invoke, builtin, Builtin.clear_, run_underlying ht]
    cases cutA A lo F.sz c <;> simp
  · obtain ⟨g, cl, a, b, rfl, rfl, hfz, hle, hupd⟩ := hown.updR (i := lo) (ys := List.replicate (m - lo) F.dflt) (by omega) (by simp; omega)
    have hc := hown.cap
    have hrl : (rows F (List.replicate (m - lo) F.dflt)).length = (m - lo) * F.sz := by rw [rows_len]; simp
    simp only [List.length_replicate] at hle hupd
    have e0 : (lo + (m - lo)) * F.sz = lo * F.sz + (m - lo) * F.sz := Nat.add_mul _ _ _
    obtain ⟨w', hr, hs'⟩ := hst.stored (P := P) 0 (off := lo * F.sz) (vs := rows F (List.replicate (m - lo) F.dflt)) rfl rows_one (by rw [hrl]; omega) (by rcases hfz with h | h <;> omega)
    have e2 : cutA (some ⟨g, 0, none⟩) lo F.sz c = some ⟨g, lo * F.sz, none⟩ := by
      unfold cutA
      rw [if_neg (by omega)]
      simp only [Option.map_some]
      congr 1
      unfold Addr.add; split <;> simp_all
    rw [e2] at hx
    refine WL.eff (w' := w') (v := .tuple #[]) hw hd (fun ρ hρ => ?_) (k [(g, .cells (cl.take (lo * F.sz) ++ rows F (List.replicate (m - lo) F.dflt) ++ cl.drop (lo * F.sz + (rows F (List.replicate (m - lo) F.dflt)).length)).toArray e (a, b))] w' hs' ?_ rfl)
    · obtain ⟨q, hq⟩ : ∃ q, m - lo = q + 1 := ⟨m - lo - 1, by omega⟩
      rw [hq] at hx hr
      simp [execOp, ho, hρ _ _ hx, resolve, invoke, builtin, Builtin.clear_, run_underlying ht, hzv, zeros_rows hz, hr]
    · have := hupd _ (by rw [e0])
      rw [List.drop_of_length_le (i := lo + (m - lo)) (by omega), List.append_nil] at this
      rw [hrl]
      exact this
/-- Room for some elements, in a slice that was nil. -/
theorem WL.appendZ (m : Nat) (hst : St w0 T L w) {t tx e : TypeId} {i : TypeInfo} {z : Value} {x y : Operand} {q : Int} (ht : P.underlying t = some (.slice e)) (htx : P.underlying tx = some (.int .i64)) (hi : P.info? e = some i) (hz : i.zero = some z) (hs1 : Nat.beq i.size F.sz = true) (hs3 : Nat.beq (cellsOf z).length F.sz = true) (hs2 : Nat.ble i.bytes 512 = true)
    (ho : o.op = .call { callee := .builtin .append, args := #[x, y], argTypes := #[t, tx] }) (hw : want ol o f = some true) (hd : o.dst = some d) (hn : Nat.blt d n = true) (hx : ev f x = some (.slice none 0 0)) (hy : ev f y = some (.int .i64 q)) (hq : q = (m : Int)) (h0 : 0 < m) (hb : m ≤ 274877906944)
    (k : ∀ A c L1 w', m ≤ c → St w0 T (L1 ++ L) w' → OwnF F e (.slice A 0 c) [] L1 → WL P n ol rest K ((d, .slice A m c) :: f) w') : WL P n ol (o :: rest) K f w := by
  subst hq
  have hs1' := Nat.eq_of_beq_eq_true hs1
  have hs3' := Nat.eq_of_beq_eq_true hs3
  have hs2' := Nat.le_of_ble_eq_true hs2
  have hzs : z.cells.size = i.size := by rw [cellsOf_eq]; simp; omega
  have hge := grownCap_ge w m 0 e
  have hcm : grownCap w m 0 e ≤ maxLen := grownCap_le_maxLen w m 0 e (by simp only [maxLen]; omega)
  have hfit : Builtin.nextslicecap m 0 * i.bytes ≤ 281474976710656 := growslice_fits (by omega) (by
    have : m * i.bytes ≤ 274877906944 * 512 := Nat.mul_le_mul hb hs2'
    omega)
  have hr : (Builtin.append_ #[t, tx] o.type #[.slice none 0 0, .int .i64 m]).run P w = .ok (.slice (some ⟨w.heap.size, 0, none⟩) m (grownCap w m 0 e)) (w.drew.alloc (.cells (Builtin.zeroCells z.cells m ++ Builtin.zeroCells z.cells (grownCap w m 0 e - m)) e)) := by
    have e1 : IntKind.i64.wrap (m : Int) = m := wrap_in (by constructor <;> omega)
    have e2 : ¬ ((m : Int) < 0) := by omega
    have e3 : ¬ (281474976710656 < (m : Int) * (i.bytes : Int)) := by
      have : m * i.bytes ≤ 274877906944 * 512 := Nat.mul_le_mul hb hs2'
      have h2 : ((m * i.bytes : Nat) : Int) ≤ 281474976710656 := by omega
      rw [Int.natCast_mul] at h2
      omega
    have e4 : ¬ m = 0 := by omega
    have e5 : ¬ (281474976710656 < Builtin.nextslicecap m 0 * i.bytes) := by omega
    have e6 : ¬ (9223372036854775807 < (m : Int)) := by omega
    have hsz : ¬ i.size = 0 := by rw [hs1']; exact Nat.ne_of_gt F.pos
    have e7 : ¬ (m * i.size = 0) := fun h => by rcases Nat.mul_eq_zero.1 h with h | h <;> contradiction
    simp [Builtin.append_, run_underlying ht, run_underlying htx, sizeOf, typeInfo, zeroValue, hi, hz, asInt, asIntOf, e7, e1, e2, e3, e4, e5, e6, hsz, Question.forced, Builtin.firstCells, newRow, grownCap]
  refine WL.val (w' := _) hw hd hn (fun ρ hρ => ?_) (k (some ⟨w.heap.size, 0, none⟩) (grownCap w m 0 e) [(w.heap.size, .cells (Builtin.zeroCells z.cells m ++ Builtin.zeroCells z.cells (grownCap w m 0 e - m)).toList.toArray e (0, 0))] _ hge (hst.drew.alloc _) ?_)
  · simp [execOp, ho, hρ _ _ hx, hρ _ _ hy, resolve, invoke, builtin, hr]
    congr 1
    simp
  · refine ⟨by simp [rows], .inr ⟨w.heap.size, _, _, (0, 0), rfl, rfl, Nat.zero_le _, hcm, ?_, by simp [rows], .inl (Nat.le_refl _)⟩⟩
    rw [Array.length_toList, Array.size_append, size_zeroCells, size_zeroCells, hzs, hs1', ← Nat.add_mul]
    congr 1
    omega
end
/-- A variable that another function holds. -/
theorem SlF.var {α : Type} {F : Enc α} {w : World} {a : Addr} {x : α} {v : Value} (h : SlF F w (some a) 1 [x]) (hv : (F.enc x)[0]? = some v) : w.cell? a = some v := by
  have := SlF.one1 (k := 0) h (by omega) (v := v) hv
  have e : (adr (some a)).add (0 * F.sz) = a := by
    rw [Nat.zero_mul]
    show a.add 0 = a
    unfold Addr.add
    split <;> simp_all
  rwa [e] at this
theorem SlF.own1 {α : Type} {F : Enc α} {w : World} {b : Nat} {x : α} {cl : List Value} {e : TypeId} {fz : Nat × Nat} (h : w.heap[b]? = some (.cells cl.toArray e fz)) (hx : cl = F.enc x := by rfl) : SlF F w (some ⟨b, 0, none⟩) 1 [x] := by
  subst hx
  refine ⟨rfl, SlR.block (off := 0) h ?_ ?_⟩
  · rw [List.drop_zero, Nat.one_mul, List.take_of_length_le (by rw [F.len]; exact Nat.le_refl _)]
    simp [rows]
  · rw [rows_len]; simp
theorem SlF.none_ {α : Type} {F : Enc α} {w : World} {n : Nat} {xs : List α} (h : SlF F w none n xs) : n = 0 := by
  rcases Nat.eq_zero_or_pos n with h0 | h0
  · exact h0
  · have := h.rd.some_ h0
    cases this
/-- A number that is natural. -/
theorem Run.asN {P : Program} {w w' : World} {o : Oper} {f : Fr} {k : IntKind} {z : Int} (n : Nat) (h : Run P o f w (.value (.int k z)) w') (hz : z = (n : Int)) : Run P o f w (.value (.int k (n : Int))) w' := hz ▸ h
/-- The head of a slice, as it lies in a cell. -/
structure HdrD where
  A : Option Addr
  n : Nat
  c : Nat
def encH : Enc HdrD := ⟨1, fun h => [.slice h.A h.n h.c], ⟨none, 0, 0⟩, fun _ => rfl, fun x v h => by simp at h; subst h; rfl, by decide⟩
end Go.Proofs.Ytpiimkfonlijdaa
