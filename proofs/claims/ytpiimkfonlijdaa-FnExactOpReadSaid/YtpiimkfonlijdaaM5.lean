/-
  Plain laws: readers that read on; an operation out of its bytes.
-/
import Derived.Test.YtpiimkfonlijdaaM4
namespace Go.Proofs.Ytpiimkfonlijdaa
open Go Go.RowKit
set_option linter.unusedVariables false
set_option linter.unusedSimpArgs false

/-- Where a reader stands; none where something was not there. -/
def rst (q : Int) (bad : Bool) : Option Int := if bad = true then none else some q
def rdN (s : List UInt8) : Option Int → Int
  | none => 0
  | some q => gvN (getAt s q)
def rdS (s : List UInt8) : Option Int → Option Int
  | none => none
  | some q => (getAt s q).map fun x => q + x.2
theorem rdS_none (s : List UInt8) : rdS s none = none := rfl
theorem rst_t {q : Int} : rst q true = none := rfl
theorem rst_f {q : Int} : rst q false = some q := rfl
theorem rst_next {s : List UInt8} {q : Int} : rst (gvE q (getAt s q)) (!(getAt s q).isSome) = rdS s (some q) := by
  cases h : getAt s q <;> simp [rst, rdS, h, gvE]
theorem rdN_bounds (s : List UInt8) (o : Option Int) : 0 ≤ rdN s o ∧ rdN s o ≤ 4294967295 := by
  cases o with
  | none => simp [rdN]
  | some q => exact ⟨(gv_bounds s q).1, (gv_bounds s q).2.1⟩
def txtAt (s : List UInt8) (q : Int) : Option (ByteArray × Int) :=
  if ((getAt s q).isSome = true ∧ gvN (getAt s q) ≤ 4000) ∧ gvN (getAt s q) ≤ s.length - gvE q (getAt s q) then some (⟨((s.drop (gvE q (getAt s q)).toNat).take (gvN (getAt s q)).toNat).toArray⟩, gvE q (getAt s q) + gvN (getAt s q)) else none
def txT : Option (ByteArray × Int) → ByteArray
  | none => ⟨#[]⟩
  | some x => x.1
def txE : Option (ByteArray × Int) → Int
  | none => 0
  | some x => x.2
theorem txt_bounds (s : List UInt8) (q : Int) : (txT (txtAt s q)).size ≤ 4000 ∧ 0 ≤ txE (txtAt s q) ∧ txE (txtAt s q) ≤ s.length := by
  have hg := gv_bounds s q
  unfold txtAt
  split
  · rename_i h
    simp only [txT, txE]
    refine ⟨?_, by omega, by omega⟩
    show (List.toArray _).size ≤ 4000
    simp only [List.size_toArray, List.length_take]
    omega
  · simp [txT, txE, ByteArray.size]
def rdT (s : List UInt8) : Option Int → ByteArray
  | none => ⟨#[]⟩
  | some q => txT (txtAt s q)
def rdTS (s : List UInt8) : Option Int → Option Int
  | none => none
  | some q => (txtAt s q).map (·.2)
theorem rdT_size (s : List UInt8) (o : Option Int) : (rdT s o).size ≤ 4000 := by
  cases o with
  | none => simp [rdT, ByteArray.size]
  | some q => exact (txt_bounds s q).1
theorem rst_text {s : List UInt8} {q : Int} : rst (txE (txtAt s q)) (!(txtAt s q).isSome) = rdTS s (some q) := by
  cases h : txtAt s q <;> simp [rst, rdTS, h, txE]
/-- So many numbers, up to the first that is not there. -/
def rdVars (s : List UInt8) : Nat → Option Int → List Int × Option Int
  | 0, o => ([], o)
  | m + 1, none => ([], none)
  | m + 1, some q => (rdN s (some q) :: (rdVars s m (rdS s (some q))).1, (rdVars s m (rdS s (some q))).2)
theorem rdVars_none (s : List UInt8) (m : Nat) : rdVars s m none = ([], none) := by cases m <;> rfl
theorem rdVars_len (s : List UInt8) : ∀ (m : Nat) (o : Option Int), (rdVars s m o).1.length ≤ m
  | 0, o => by simp [rdVars]
  | m + 1, none => by simp [rdVars]
  | m + 1, some q => by
    have := rdVars_len s m (rdS s (some q))
    simp only [rdVars, List.length_cons]; omega
theorem rdVars_bounds (s : List UInt8) : ∀ (m : Nat) (o : Option Int) (x : Int), x ∈ (rdVars s m o).1 → 0 ≤ x ∧ x ≤ 4294967295
  | 0, o, x, h => by simp [rdVars] at h
  | m + 1, none, x, h => by simp [rdVars] at h
  | m + 1, some q, x, h => by
    simp only [rdVars, List.mem_cons] at h
    rcases h with rfl | h
    · exact rdN_bounds s _
    · exact rdVars_bounds s m _ x h
/-! an operation -/
structure OpV where
  K : Int
  A : Int
  B : Int
  C : Int
  nm : ByteArray
  tx : ByteArray
  dr : ByteArray
  xs : List UInt8
def opS (s : List UInt8) : Nat → Option Int
  | 0 => some 0
  | 1 => rdS s (some 0)
  | 2 => rdS s (rdS s (some 0))
  | 3 => rdS s (rdS s (rdS s (some 0)))
  | 4 => rdS s (rdS s (rdS s (rdS s (some 0))))
  | 5 => rdTS s (rdS s (rdS s (rdS s (rdS s (some 0)))))
  | 6 => rdTS s (rdTS s (rdS s (rdS s (rdS s (rdS s (some 0))))))
  | 7 => rdTS s (rdTS s (rdTS s (rdS s (rdS s (rdS s (rdS s (some 0)))))))
  | _ => rdTS s (rdTS s (rdTS s (rdTS s (rdS s (rdS s (rdS s (rdS s (some 0))))))))
def opVal (s : List UInt8) : OpV := ⟨rdN s (opS s 0), rdN s (opS s 1), rdN s (opS s 2), rdN s (opS s 3), rdT s (opS s 4), rdT s (opS s 5), rdT s (opS s 6), (rdT s (opS s 7)).data.toList⟩
def opVOk (v : OpV) : Bool := opOk v.K v.A v.B v.C v.nm v.tx v.dr v.xs.length
def opVB (v : OpV) : List UInt8 := opB v.K v.A v.B v.C v.nm v.tx v.dr v.xs
def opRdOk (s : List UInt8) : Bool := ((opS s 8).isSome && opVOk (opVal s)) && decide (opVB (opVal s) = s)
def opRes (s : List UInt8) : OpV := if opRdOk s = true then opVal s else ⟨0, 0, 0, 0, ⟨#[]⟩, ⟨#[]⟩, ⟨#[]⟩, []⟩
theorem opRes_no {s : List UInt8} (h : opRdOk s = false) : opRes s = ⟨0, 0, 0, 0, ⟨#[]⟩, ⟨#[]⟩, ⟨#[]⟩, []⟩ := by unfold opRes; rw [h]; rfl
theorem opRes_yes {s : List UInt8} (h : opRdOk s = true) : opRes s = opVal s := by unfold opRes; rw [if_pos h]
theorem opVal_sizes (s : List UInt8) : (opVal s).nm.size ≤ 4000 ∧ (opVal s).tx.size ≤ 4000 ∧ (opVal s).dr.size ≤ 4000 ∧ (opVal s).xs.length ≤ 4000 := by
  refine ⟨rdT_size s _, rdT_size s _, rdT_size s _, ?_⟩
  have := rdT_size s (opS s 7)
  have e : (opVal s).xs.length = (rdT s (opS s 7)).size := by simp [opVal]
  omega
theorem opRes_sizes (s : List UInt8) : (opRes s).nm.size ≤ 4000 ∧ (opRes s).tx.size ≤ 4000 ∧ (opRes s).dr.size ≤ 4000 ∧ (opRes s).xs.length ≤ 4000 := by
  unfold opRes
  split
  · exact opVal_sizes s
  · simp [ByteArray.size]
theorem rdVars4 (s : List UInt8) : (rdVars s 4 (some 0)).2 = opS s 4 := by
  simp only [opS]
  rw [rdVars]
  simp only
  cases h1 : rdS s (some 0) with
  | none => simp [rdVars, rdS_none]
  | some q1 =>
    rw [rdVars]
    simp only
    cases h2 : rdS s (some q1) with
    | none => simp [rdVars, rdS_none]
    | some q2 =>
      rw [rdVars]
      simp only
      cases h3 : rdS s (some q2) with
      | none => simp [rdVars, rdS_none]
      | some q3 => simp [rdVars]
theorem rdVars4_ok {s : List UInt8} (h : (opS s 4).isSome = true) : (rdVars s 4 (some 0)).1 = [rdN s (opS s 0), rdN s (opS s 1), rdN s (opS s 2), rdN s (opS s 3)] := by
  simp only [opS] at h ⊢
  rw [rdVars]
  simp only
  cases h1 : rdS s (some 0) with
  | none => simp [h1, rdS_none] at h
  | some q1 =>
    rw [rdVars]
    simp only
    cases h2 : rdS s (some q1) with
    | none => simp [h1, h2, rdS_none] at h
    | some q2 =>
      rw [rdVars]
      simp only
      cases h3 : rdS s (some q2) with
      | none => simp [h1, h2, h3, rdS_none] at h
      | some q3 => simp [rdVars]
theorem rdTS_some {s : List UInt8} {o : Option Int} (h : (rdTS s o).isSome = true) : o.isSome = true := by
  cases o with
  | none => simp [rdTS] at h
  | some q => rfl
theorem rdVars_stop {s : List UInt8} {m i : Nat} {q : Int} {bad : Bool} (h : m ≤ i ∨ bad = true) : rdVars s (m - i) (rst q bad) = ([], rst q bad) := by
  rcases h with h | h
  · rw [show m - i = 0 from by omega]; rfl
  · subst h; exact rdVars_none s _
theorem rdVars_step {s : List UInt8} {m i : Nat} {q : Int} (h : i < m) : rdVars s (m - i) (rst q false) = (rdN s (rst q false) :: (rdVars s (m - (i + 1)) (rdS s (rst q false))).1, (rdVars s (m - (i + 1)) (rdS s (rst q false))).2) := by
  rw [show m - i = m - (i + 1) + 1 from by omega]; rfl
theorem gat_ext {α : Type} {F : Enc α} {a b : List α} (hl : a.length = b.length) (h : ∀ j, j < a.length → gat F a j = gat F b j) : a = b := by
  apply List.ext_getElem hl
  intro i h1 h2
  have e1 := gat_get (F := F) h1
  have e2 := gat_get (F := F) h2
  rw [List.getElem?_eq_getElem h1] at e1
  rw [List.getElem?_eq_getElem h2] at e2
  rw [Option.some.inj e1, Option.some.inj e2]
  exact h i h1
theorem u8_inj {a b : UInt8} (h : (a.toNat : Int) = (b.toNat : Int)) : a = b := UInt8.toNat_inj.1 (by omega)
end Go.Proofs.Ytpiimkfonlijdaa
