/-
  Plain laws: reading of numbers, of attributes, of runs of cells.
  Plain laws: readers that read on; an operation out of its bytes.
-/
import Derived.Test.YtlmcekfdlgkffaaMA
namespace Go.Proofs.Ytlmcekfdlgkffaa
open Go Go.RowKit
set_option linter.unusedVariables false
set_option linter.unusedSimpArgs false

/-! one number -/
def contLen : List UInt8 → Nat
  | [] => 0
  | x :: r => if 128 ≤ x.toNat then contLen r + 1 else 0
def valL : List UInt8 → Nat
  | [] => 0
  | x :: r => x.toNat % 128 + 128 * valL r
theorem contLen_le : ∀ l, contLen l ≤ l.length
  | [] => by simp [contLen]
  | x :: r => by
    have := contLen_le r
    simp only [contLen, List.length_cons]; split <;> omega
theorem contLen_lt : ∀ {l : List UInt8} {i : Nat}, i < contLen l → 128 ≤ (gat encB l i).toNat
  | [], _, h => by simp [contLen] at h
  | x :: r, 0, h => by
    simp only [contLen] at h
    split at h
    · rename_i hx; exact hx
    · omega
  | x :: r, i + 1, h => by
    simp only [contLen] at h
    split at h
    · have := contLen_lt (l := r) (i := i) (by omega)
      simpa [gat] using this
    · omega
theorem contLen_at : ∀ {l : List UInt8}, contLen l < l.length → (gat encB l (contLen l)).toNat < 128
  | [], h => by simp at h
  | x :: r, h => by
    simp only [contLen] at h ⊢
    split
    · rename_i hx
      rw [if_pos hx] at h
      have := contLen_at (l := r) (by simpa using h)
      simpa [gat] using this
    · simp [gat]; omega
theorem contLen_next {l : List UInt8} {i : Nat} (h : i ≤ contLen l) (hi : i < l.length) (hx : 128 ≤ (gat encB l i).toNat) : i + 1 ≤ contLen l := by
  rcases Nat.lt_or_ge i (contLen l) with h1 | h1
  · exact h1
  · obtain rfl : i = contLen l := by omega
    have := contLen_at hi
    omega
theorem contLen_stop {l : List UInt8} {i : Nat} (h : i ≤ contLen l) (hx : (gat encB l i).toNat < 128) : contLen l = i := by
  rcases Nat.lt_or_ge i (contLen l) with h1 | h1
  · have := contLen_lt h1
    omega
  · omega
theorem valL_append : ∀ (a b : List UInt8), valL (a ++ b) = valL a + 128 ^ a.length * valL b
  | [], b => by simp [valL]
  | x :: r, b => by
    simp only [List.cons_append, valL, valL_append r b, List.length_cons, Nat.pow_succ]
    rw [Nat.mul_add, ← Nat.mul_assoc, Nat.mul_comm 128 (128 ^ r.length)]
    omega
theorem valL_lt : ∀ l : List UInt8, valL l < 128 ^ l.length
  | [] => by simp [valL]
  | x :: r => by
    have := valL_lt r
    simp only [valL, List.length_cons, Nat.pow_succ]
    have h1 : x.toNat % 128 < 128 := Nat.mod_lt _ (by omega)
    have h2 : 128 * (valL r + 1) ≤ 128 * 128 ^ r.length := Nat.mul_le_mul_left _ this
    rw [Nat.mul_comm (128 ^ r.length)]
    omega
theorem valL_take {l : List UInt8} {i : Nat} (h : i < l.length) : valL (l.take (i + 1)) = valL (l.take i) + (gat encB l i).toNat % 128 * 128 ^ i := by
  rw [List.take_add_one, gat_get (F := encB) h, valL_append]
  simp only [Option.toList, valL, List.length_take, Nat.min_eq_left (Nat.le_of_lt h), Nat.mul_zero, Nat.add_zero]
  rw [Nat.mul_comm]
theorem valL_or {l : List UInt8} {i : Nat} (h : i < l.length) : valL (l.take i) ||| (gat encB l i).toNat % 128 * 2 ^ (7 * i) = valL (l.take (i + 1)) := by
  have e : (2 : Nat) ^ (7 * i) = 128 ^ i := by rw [Nat.pow_mul]
  have h1 := valL_lt (l.take i)
  rw [List.length_take, Nat.min_eq_left (Nat.le_of_lt h), ← e] at h1
  rw [valL_take h, ← e, Nat.or_comm, Nat.mul_comm, ← Nat.two_pow_add_eq_or_of_lt h1]
  omega
theorem u8_of (x : UInt8) : UInt8.ofNat x.toNat = x := by simp
theorem valL_zero {p : List UInt8} {x : UInt8} (hx : x.toNat < 128) (h : valL (p ++ [x]) = 0) : x.toNat = 0 := by
  rw [valL_append] at h
  have h1 : 128 ^ p.length * valL [x] = 0 := by omega
  have h2 : 0 < 128 ^ p.length := Nat.pow_pos (by omega)
  rcases Nat.mul_eq_zero.1 h1 with h3 | h3
  · omega
  · simp only [valL] at h3
    omega
theorem varL_term : ∀ (p : List UInt8) (x : UInt8), (∀ b, b ∈ p → 128 ≤ b.toNat) → x.toNat < 128 → (varL (valL (p ++ [x])) = p ++ [x] ↔ (p = [] ∨ x.toNat ≠ 0))
  | [], x, _, hx => by
    have e : valL [x] = x.toNat := by simp only [valL]; omega
    rw [List.nil_append, e, varL_small hx, u8_of]
    simp
  | b :: p, x, hp, hx => by
    have ih := varL_term p x (fun c hc => hp c (List.mem_cons_of_mem _ hc)) hx
    have hb := hp b List.mem_cons_self
    have hb2 := b.toNat_lt
    have e : valL (b :: p ++ [x]) = b.toNat % 128 + 128 * valL (p ++ [x]) := rfl
    rw [e]
    by_cases hV : valL (p ++ [x]) = 0
    · have hx0 := valL_zero hx hV
      rw [hV, varL_small (by omega)]
      constructor
      · intro h
        have := congrArg List.length h
        simp at this
      · rintro (h | h)
        · cases h
        · exact absurd hx0 h
    · rw [varL_big (by omega)]
      have e1 : (b.toNat % 128 + 128 * valL (p ++ [x])) / 128 = valL (p ++ [x]) := by omega
      have e2 : (b.toNat % 128 + 128 * valL (p ++ [x])) % 128 + 128 = b.toNat := by omega
      rw [e1, e2, u8_of, List.cons_append, List.cons.injEq]
      constructor
      · rintro ⟨_, h⟩
        rcases ih.1 h with h1 | h1
        · subst h1
          refine .inr ?_
          intro h0
          apply hV
          simp [valL, h0]
        · exact .inr h1
      · rintro (h | h)
        · cases h
        · exact ⟨rfl, ih.2 (.inr h)⟩
/-- The number at the front of some bytes, and how many bytes it has. -/
def getL (l : List UInt8) : Option (Nat × Nat) :=
  if contLen l < 5 ∧ contLen l < l.length ∧ valL (l.take (contLen l + 1)) ≤ 4294967295 ∧ varL (valL (l.take (contLen l + 1))) = l.take (contLen l + 1) then some (valL (l.take (contLen l + 1)), contLen l + 1) else none
theorem getL_eq {l : List UInt8} {i : Nat} (h : i ≤ contLen l) (hi : i < l.length) (hx : (gat encB l i).toNat < 128) (h4 : i ≤ 4) :
    getL l = if valL (l.take (i + 1)) ≤ 4294967295 ∧ (i = 0 ∨ (gat encB l i).toNat ≠ 0) then some (valL (l.take (i + 1)), i + 1) else none := by
  have e := contLen_stop h hx
  have ht : l.take (i + 1) = l.take i ++ [gat encB l i] := by
    rw [List.take_add_one, gat_get (F := encB) hi]; rfl
  have hall : ∀ b, b ∈ l.take i → 128 ≤ b.toNat := by
    intro b hb
    obtain ⟨j, hj, rfl⟩ := List.mem_iff_getElem.1 hb
    rw [List.length_take] at hj
    have := contLen_lt (l := l) (i := j) (by omega)
    rw [List.getElem_take]
    have h2 := gat_get (F := encB) (xs := l) (k := j) (by omega)
    rw [List.getElem?_eq_getElem (by omega)] at h2
    rw [Option.some.inj h2]; exact this
  have hv := varL_term (l.take i) (gat encB l i) hall hx
  rw [← ht] at hv
  have h0 : l.take i = [] ↔ i = 0 := by
    rw [← List.length_eq_zero_iff, List.length_take]; omega
  rw [h0] at hv
  unfold getL
  rw [e]
  by_cases hc : valL (l.take (i + 1)) ≤ 4294967295 ∧ (i = 0 ∨ (gat encB l i).toNat ≠ 0)
  · rw [if_pos hc, if_pos ⟨by omega, hi, hc.1, hv.2 hc.2⟩]
  · rw [if_neg hc, if_neg (fun hh => hc ⟨hh.2.2.1, hv.1 hh.2.2.2⟩)]
theorem getL_none {l : List UInt8} (h : 5 ≤ contLen l ∨ l.length ≤ contLen l) : getL l = none := by
  unfold getL
  rw [if_neg]
  rintro ⟨h1, h2, _⟩
  omega
theorem getL_some {l : List UInt8} {n k : Nat} (h : getL l = some (n, k)) : 1 ≤ k ∧ k ≤ 5 ∧ k ≤ l.length ∧ n ≤ 4294967295 ∧ varL n = l.take k := by
  unfold getL at h
  split at h
  · rename_i hh
    simp only [Option.some.injEq, Prod.mk.injEq] at h
    obtain ⟨rfl, rfl⟩ := h
    exact ⟨by omega, by omega, by omega, hh.2.2.1, hh.2.2.2⟩
  · cases h
def getAt (b : List UInt8) (p : Int) : Option (Nat × Nat) := if 0 ≤ p ∧ p ≤ b.length then getL (b.drop p.toNat) else none
def gvN : Option (Nat × Nat) → Int
  | none => 0
  | some x => x.1
def gvE (p : Int) : Option (Nat × Nat) → Int
  | none => 0
  | some x => p + x.2
theorem getAt_some {b : List UInt8} {p : Int} {n k : Nat} (h : getAt b p = some (n, k)) : 0 ≤ p ∧ p + k ≤ b.length ∧ 1 ≤ k ∧ k ≤ 5 ∧ n ≤ 4294967295 ∧ varL n = (b.drop p.toNat).take k := by
  unfold getAt at h
  split at h
  · rename_i hh
    have := getL_some h
    rw [List.length_drop] at this
    exact ⟨hh.1, by omega, this.1, this.2.1, this.2.2.2.1, this.2.2.2.2⟩
  · cases h
theorem gv_bounds (b : List UInt8) (p : Int) : 0 ≤ gvN (getAt b p) ∧ gvN (getAt b p) ≤ 4294967295 ∧ 0 ≤ gvE p (getAt b p) ∧ gvE p (getAt b p) ≤ b.length := by
  cases h : getAt b p with
  | none => simp [gvN, gvE]
  | some x =>
    obtain ⟨n, k⟩ := x
    have := getAt_some h
    simp only [gvN, gvE]
    omega
theorem varL_prefix : ∀ (a : Nat) {b : Nat} {X Y : List UInt8}, varL a ++ X = varL b ++ Y → a = b ∧ X = Y := by
  intro a
  induction a using Nat.strongRecOn with
  | ind a ih =>
    intro b X Y h
    have hof : ∀ m n : Nat, m < 256 → n < 256 → UInt8.ofNat m = UInt8.ofNat n → m = n := fun m n hm hn he => by
      have := congrArg UInt8.toNat he
      simp only [UInt8.toNat_ofNat'] at this
      omega
    by_cases ha : a < 128 <;> by_cases hb : b < 128
    · rw [varL_small ha, varL_small hb] at h
      simp only [List.singleton_append, List.cons.injEq] at h
      exact ⟨hof _ _ (by omega) (by omega) h.1, h.2⟩
    · rw [varL_small ha, varL_big hb] at h
      simp only [List.singleton_append, List.cons_append, List.cons.injEq] at h
      have := hof _ _ (by omega) (by omega) h.1
      omega
    · rw [varL_big ha, varL_small hb] at h
      simp only [List.singleton_append, List.cons_append, List.cons.injEq] at h
      have := hof _ _ (by omega) (by omega) h.1
      omega
    · rw [varL_big ha, varL_big hb] at h
      simp only [List.cons_append, List.cons.injEq] at h
      have h1 := hof _ _ (by omega) (by omega) h.1
      have h2 := ih (a / 128) (by omega) h.2
      exact ⟨by omega, h2.2⟩

theorem shl7 {x i : Nat} (hx : x < 128) (hi : i ≤ 4) : (0 : Int) ≤ (x : Int) * 2 ^ ((7 : Int) * (i : Int)).toNat ∧ (x : Int) * 2 ^ ((7 : Int) * (i : Int)).toNat ≤ 34359738367 ∧ ((x : Int) * 2 ^ ((7 : Int) * (i : Int)).toNat).toNat = x * 2 ^ (7 * i) := by
  have e : ((7 : Int) * (i : Int)).toNat = 7 * i := by omega
  have h : i = 0 ∨ i = 1 ∨ i = 2 ∨ i = 3 ∨ i = 4 := by omega
  rw [e]
  rcases h with rfl | rfl | rfl | rfl | rfl <;> simp <;> omega
theorem bat_drop {b : List UInt8} {p i : Nat} : gat encB (b.drop p) i = gat encB b (p + i) := by simp [gat, List.getD]
theorem valL_drop {l : List UInt8} {m j : Nat} (h : j < m) (hm : m ≤ l.length) : valL ((l.take m).drop j) = (gat encB l j).toNat % 128 + 128 * valL ((l.take m).drop (j + 1)) := by
  have hj : j < (l.take m).length := by rw [List.length_take]; omega
  rw [List.drop_eq_getElem_cons hj]
  simp only [valL]
  have h2 := gat_get (F := encB) (xs := l) (k := j) (by omega)
  rw [List.getElem?_eq_getElem (by omega)] at h2
  rw [List.getElem_take, Option.some.inj h2]
theorem valL_drop_lt {l : List UInt8} {m j : Nat} (hm : m ≤ 5) : valL ((l.take m).drop j) < 34359738368 := by
  have h1 := valL_lt ((l.take m).drop j)
  have h2 : ((l.take m).drop j).length ≤ 5 := by simp; omega
  have h3 : 128 ^ ((l.take m).drop j).length ≤ 128 ^ 5 := Nat.pow_le_pow_right (by omega) h2
  omega
theorem valL_take_lt {l : List UInt8} {m : Nat} (hm : m ≤ 5) : valL (l.take m) < 34359738368 := by
  have := valL_drop_lt (l := l) (m := m) (j := 0) hm
  simpa using this
theorem getAt_none {b : List UInt8} {p : Int} (h : ¬ (0 ≤ p ∧ p ≤ b.length)) : getAt b p = none := by unfold getAt; rw [if_neg h]
theorem getAt_in {b : List UInt8} {p : Int} (h : 0 ≤ p ∧ p ≤ b.length) : getAt b p = getL (b.drop p.toNat) := by unfold getAt; rw [if_pos h]
theorem getL_done {l : List UInt8} {i : Nat} (h : contLen l = i) (h5 : i < 5) (hi : i < l.length) : getL l = if valL (l.take (i + 1)) ≤ 4294967295 ∧ varL (valL (l.take (i + 1))) = l.take (i + 1) then some (valL (l.take (i + 1)), i + 1) else none := by
  subst h
  unfold getL
  by_cases hc : valL (l.take (contLen l + 1)) ≤ 4294967295 ∧ varL (valL (l.take (contLen l + 1))) = l.take (contLen l + 1)
  · rw [if_pos hc, if_pos ⟨h5, hi, hc⟩]
  · rw [if_neg hc, if_neg (fun hh => hc hh.2.2)]
/-! some numbers -/
/-- So many numbers, and where each ends. -/
def getMany (b : List UInt8) : Nat → Int → Option (List (Int × Int))
  | 0, _ => some []
  | m + 1, p => match getAt b p with
    | none => none
    | some x => (getMany b m (p + x.2)).map ((((x.1 : Nat) : Int), p + x.2) :: ·)
def manyN (o : Option (List (Int × Int))) : List Int := (o.getD []).map (·.1)
def manyE (o : Option (List (Int × Int))) : List Int := (o.getD []).map (·.2)
theorem getMany_len {b : List UInt8} : ∀ {m : Nat} {p : Int} {l : List (Int × Int)}, getMany b m p = some l → l.length = m
  | 0, p, l, h => by simp only [getMany, Option.some.injEq] at h; subst h; rfl
  | m + 1, p, l, h => by
    simp only [getMany] at h
    split at h
    · cases h
    · obtain ⟨r, hr, rfl⟩ := Option.map_eq_some_iff.1 h
      rw [List.length_cons, getMany_len hr]
/-! attributes -/
def naOk (n : Int) : Bool := decide (0 ≤ n) && decide (n < 648)
def naD (n : Int) : AttrD := if naOk n = true then ⟨n / 8 % 9, n / 72, decide (n % 2 = 1), decide (n / 2 % 2 = 1), decide (n / 4 % 2 = 1)⟩ else ⟨0, 0, false, false, false⟩
theorem naD_ok {n : Int} (h : naOk n = true) : attrOk (naD n).Fg (naD n).Bg = true ∧ attrNum (naD n) = n := by
  have h2 := h
  simp only [naOk, Bool.and_eq_true, decide_eq_true_eq] at h2
  unfold naD
  rw [if_pos h]
  have h3 : attrOk (n / 8 % 9) (n / 72) = true := by simp [attrOk, within]; omega
  refine ⟨h3, ?_⟩
  unfold attrNum
  rw [if_pos h3]
  simp only [decide_eq_true_eq]
  split <;> split <;> split <;> omega
theorem nbit {n : Int} (h0 : 0 ≤ n) (i : Nat) : ((((n.toNat &&& 2 ^ i : Nat)) : Int) = ((2 ^ i : Nat) : Int)) ↔ n / 2 ^ i % 2 = 1 := by
  obtain ⟨m, rfl⟩ : ∃ m : Nat, n = m := ⟨n.toNat, by omega⟩
  rw [Int.toNat_natCast]
  have e1 : ((m : Int) / 2 ^ i % 2 = 1) ↔ m / 2 ^ i % 2 = 1 := by
    have : ((m / 2 ^ i % 2 : Nat) : Int) = (m : Int) / 2 ^ i % 2 := by push_cast; rfl
    omega
  have e2 : m / 2 ^ i % 2 = 1 ↔ m.testBit i = true := by rw [Nat.testBit_eq_decide_div_mod_eq, decide_eq_true_eq]
  rw [e1, e2, Int.ofNat_inj]
  constructor
  · intro h
    have := congrArg (fun z => z.testBit i) h
    simpa using this
  · intro h
    apply Nat.eq_of_testBit_eq
    intro j
    rw [Nat.testBit_and, Nat.testBit_two_pow]
    by_cases hj : i = j
    · subst hj; simp [h]
    · simp [hj]
theorem nbit1 {n : Int} (h0 : 0 ≤ n) : ((((n.toNat &&& (2 : Int).toNat : Nat)) : Int) = 2) ↔ n / 2 % 2 = 1 := nbit h0 1
theorem nbit2 {n : Int} (h0 : 0 ≤ n) : ((((n.toNat &&& (4 : Int).toNat : Nat)) : Int) = 4) ↔ n / 4 % 2 = 1 := nbit h0 2
theorem naD_eq {n : Int} (h0 : 0 ≤ n) (h : naOk n = true) : naD n = ⟨n % 72 / 8, n / 72, decide (n % 2 = 1), decide (n / 2 % 2 = 1), decide (n / 4 % 2 = 1)⟩ := by
  unfold naD
  rw [if_pos h]
  congr 1
  omega
theorem impl_na {n : Int} (h0 : 0 ≤ n) : naOk n = decide (attrNum ⟨n % 72 / 8, n / 72, decide (n % 2 = 1), decide (n / 2 % 2 = 1), decide (n / 4 % 2 = 1)⟩ = n) := by
  rw [Bool.eq_iff_iff]
  simp only [naOk, Bool.and_eq_true, decide_eq_true_eq]
  unfold attrNum
  by_cases h : n < 648
  · have h3 : attrOk (n % 72 / 8) (n / 72) = true := by simp [attrOk, within]; omega
    rw [if_pos h3]
    simp only [decide_eq_true_eq]
    constructor
    · intro _
      split <;> split <;> split <;> omega
    · intro _; omega
  · have h3 : ¬ attrOk (n % 72 / 8) (n / 72) = true := by simp [attrOk, within]; omega
    rw [if_neg h3]
    omega
/-! cells -/
/-- A run: how many, the cell, where it ends. -/
def runAt (b : List UInt8) (p : Int) : Option (Nat × CellD × Int) :=
  match getMany b 3 p with
  | some [x, y, z] => if naOk z.1 = true then some (x.1.toNat, ⟨y.1, naD z.1⟩, z.2) else none
  | _ => none
theorem runAt_some {b : List UInt8} {p y : Int} {k : Nat} {c : CellD} (h : runAt b p = some (k, c, y)) : 0 ≤ p ∧ p < y ∧ y ≤ b.length ∧ attrOk c.A.Fg c.A.Bg = true ∧ 0 ≤ c.R ∧ c.R ≤ 4294967295 ∧ k ≤ 4294967295 ∧ runB k c = (b.drop p.toNat).take (y - p).toNat := by
  unfold runAt at h
  split at h
  · rename_i x1 x2 x3 hm
    split at h
    · rename_i hz
      simp only [Option.some.injEq, Prod.mk.injEq] at h
      obtain ⟨rfl, rfl, rfl⟩ := h
      simp only [getMany] at hm
      cases h1 : getAt b p with
      | none => simp [h1] at hm
      | some v1 =>
        rw [h1] at hm
        simp only at hm
        cases h2 : getAt b (p + v1.2) with
        | none => simp [h2] at hm
        | some v2 =>
          rw [h2] at hm
          simp only at hm
          cases h3 : getAt b (p + v1.2 + v2.2) with
          | none => simp [h3] at hm
          | some v3 =>
            rw [h3] at hm
            simp only [Option.map_some, Option.some.injEq, List.cons.injEq] at hm
            obtain ⟨rfl, rfl, rfl, _⟩ := hm
            have g1 := getAt_some (n := v1.1) (k := v1.2) h1
            have g2 := getAt_some (n := v2.1) (k := v2.2) h2
            have g3 := getAt_some (n := v3.1) (k := v3.2) h3
            have hn := naD_ok hz
            refine ⟨g1.1, by omega, by omega, hn.1, by simp only; omega, by simp only; omega, by simp only; omega, ?_⟩
            unfold runB
            simp only [hn.2, Int.toNat_natCast]
            rw [g1.2.2.2.2.2, g2.2.2.2.2.2, g3.2.2.2.2.2]
            have e1 : (p + (v1.2 : Int)).toNat = p.toNat + v1.2 := by omega
            have e2 : (p + (v1.2 : Int) + (v2.2 : Int)).toNat = p.toNat + v1.2 + v2.2 := by omega
            have e3 : (p + (v1.2 : Int) + (v2.2 : Int) + (v3.2 : Int) - p).toNat = v1.2 + v2.2 + v3.2 := by omega
            rw [e1, e2, e3, List.take_add, List.take_add, List.drop_drop, List.drop_drop, Nat.add_assoc]
    · cases h
  · cases h
def readS (b : List UInt8) (left : Nat) (p : Int) : Option (List CellD × Int) :=
  if left = 0 then some ([], p) else
  match runAt b p with
  | none => none
  | some (k, c, y) => if h : 1 ≤ k ∧ k ≤ left then (readS b (left - k) y).map (fun z => (List.replicate k c ++ z.1, z.2)) else none
termination_by left
decreasing_by omega
def readC (b : List UInt8) (left : Nat) (p : Int) (last : Option CellD) : Option (List CellD × Int) :=
  if left = 0 then some ([], p) else
  match runAt b p with
  | none => none
  | some (k, c, y) => if h : (1 ≤ k ∧ k ≤ left) ∧ cellOk c = true ∧ last ≠ some c then (readC b (left - k) y (some c)).map (fun z => (List.replicate k c ++ z.1, z.2)) else none
termination_by left
decreasing_by omega
theorem readS_zero {b : List UInt8} {p : Int} : readS b 0 p = some ([], p) := by rw [readS]; simp
theorem readC_zero {b : List UInt8} {p : Int} {last : Option CellD} : readC b 0 p last = some ([], p) := by rw [readC]; simp
theorem cellsGo_rep : ∀ (k n : Nat) (c : CellD) (l : List CellD), cellsGo n (List.replicate (k + 1) c ++ l) = cellsGo (n + k) (c :: l)
  | 0, n, c, l => by simp
  | k + 1, n, c, l => by
    rw [List.replicate_succ, List.cons_append, cellsGo]
    rw [if_pos (by simp [List.replicate_succ]), cellsGo_rep k (n + 1) c l]
    congr 1; omega
theorem cellsGo_front : ∀ (l : List CellD) (n : Nat) (c : CellD), ∃ m l', cellsGo n (c :: l) = runB (n + m + 1) c ++ cellsGo 0 l' ∧ (l.head? = some c → 1 ≤ m)
  | [], n, c => ⟨0, [], by simp [cellsGo], by simp⟩
  | d :: l, n, c => by
    by_cases h : d = c
    · subst h
      obtain ⟨m, l', h1, _⟩ := cellsGo_front l (n + 1) d
      refine ⟨m + 1, l', ?_, fun _ => by omega⟩
      rw [cellsGo, if_pos (by simp), h1]
      congr 2; omega
    · refine ⟨0, d :: l, ?_, fun hh => absurd (by simpa using hh) h⟩
      rw [cellsGo, if_neg (by simpa using h)]
theorem runB_prefix {k m : Nat} {c : CellD} {X Y : List UInt8} (h : runB k c ++ X = runB m c ++ Y) : k = m ∧ X = Y := by
  unfold runB at h
  simp only [List.append_assoc] at h
  obtain ⟨h1, h2⟩ := varL_prefix _ h
  have h3 := (varL_prefix _ h2).2
  exact ⟨h1, (varL_prefix _ h3).2⟩
theorem readS_le {b : List UInt8} : ∀ (left : Nat) {p q : Int} {l : List CellD}, 0 ≤ p → p ≤ b.length → readS b left p = some (l, q) → p ≤ q ∧ q ≤ b.length ∧ l.length = left := by
  intro left
  induction left using Nat.strongRecOn with
  | ind left ih =>
    intro p q l h0 h1 h
    rw [readS] at h
    split at h
    · simp only [Option.some.injEq, Prod.mk.injEq] at h
      obtain ⟨rfl, rfl⟩ := h
      simp; omega
    · split at h
      · cases h
      · rename_i k c y hr
        have hra := runAt_some hr
        split at h
        · rename_i hk
          obtain ⟨z, hz, he⟩ := Option.map_eq_some_iff.1 h
          obtain ⟨z1, z2⟩ := z
          simp only [Prod.mk.injEq] at he
          obtain ⟨rfl, rfl⟩ := he
          have := ih (left - k) (by omega) (by omega) (by omega) hz
          simp only [List.length_append, List.length_replicate]
          omega
        · cases h
theorem readC_readS {b : List UInt8} : ∀ (left : Nat) (p : Int) (last : Option CellD), 0 ≤ p → p ≤ b.length →
    readC b left p last = match readS b left p with
      | none => none
      | some (l, q) => if cellsOk l = true ∧ cellsB l = (b.drop p.toNat).take (q - p).toNat ∧ (l.head? = none ∨ l.head? ≠ last) then some (l, q) else none := by
  intro left
  induction left using Nat.strongRecOn with
  | ind left ih =>
    intro p last h0 h1
    rw [readC, readS]
    by_cases hl : left = 0
    · rw [if_pos hl, if_pos hl]
      simp [cellsOk, cellsB, cellsGo]
    · rw [if_neg hl, if_neg hl]
      cases hr : runAt b p with
      | none => rfl
      | some v =>
        obtain ⟨k, c, y⟩ := v
        have hra := runAt_some hr
        simp only
        by_cases hk : 1 ≤ k ∧ k ≤ left
        · rw [dif_pos hk]
          have ihk := ih (left - k) (by omega) y (some c) (by omega) (by omega)
          obtain ⟨k', rfl⟩ : ∃ k', k = k' + 1 := ⟨k - 1, by omega⟩
          cases hS : readS b (left - (k' + 1)) y with
          | none =>
            rw [hS] at ihk
            simp only [Option.map_none]
            split
            · rw [ihk]; rfl
            · rfl
          | some z =>
            obtain ⟨l, q⟩ := z
            have hle := readS_le _ (by omega) (by omega) hS
            rw [hS] at ihk
            simp only at ihk
            simp only [Option.map_some]
            have hcat : (b.drop p.toNat).take (q - p).toNat = runB (k' + 1) c ++ (b.drop y.toNat).take (q - y).toNat := by
              rw [hra.2.2.2.2.2.2.2]
              have e1 : (q - p).toNat = (y - p).toNat + (q - y).toNat := by omega
              have e2 : p.toNat + (y - p).toNat = y.toNat := by omega
              rw [e1, List.take_add, List.drop_drop, e2]
            have hok : cellsOk (List.replicate (k' + 1) c ++ l) = (cellOk c && cellsOk l) := by
              unfold cellsOk
              rw [List.all_append, List.replicate_succ, List.all_cons, List.all_replicate]
              cases cellOk c <;> simp
            have hhead : (List.replicate (k' + 1) c ++ l).head? = some c := by rw [List.replicate_succ]; rfl
            rw [hok, hhead, hcat]
            have hB : cellsB (List.replicate (k' + 1) c ++ l) = cellsGo k' (c :: l) := by
              unfold cellsB
              rw [cellsGo_rep, Nat.zero_add]
            rw [hB]
            by_cases hcl : cellOk c = true ∧ last ≠ some c
            · rw [dif_pos ⟨hk, hcl⟩, ihk]
              have hiff : (cellsOk l = true ∧ cellsB l = (b.drop y.toNat).take (q - y).toNat ∧ (l.head? = none ∨ l.head? ≠ some c)) ↔ ((cellOk c && cellsOk l) = true ∧ cellsGo k' (c :: l) = runB (k' + 1) c ++ (b.drop y.toNat).take (q - y).toNat ∧ (some c = none ∨ some c ≠ last)) := by
                constructor
                · rintro ⟨g1, g2, g3⟩
                  refine ⟨by rw [hcl.1, g1]; rfl, ?_, .inr (Ne.symm hcl.2)⟩
                  rw [cellsGo, if_neg (by rcases g3 with g3 | g3
                                          · rw [g3]; simp
                                          · exact g3), ← g2]
                  rfl
                · rintro ⟨g1, g2, g3⟩
                  simp only [Bool.and_eq_true] at g1
                  obtain ⟨m, l', e1, e2⟩ := cellsGo_front l k' c
                  by_cases hh : l.head? = some c
                  · have := e2 hh
                    rw [e1] at g2
                    have := (runB_prefix g2).1
                    omega
                  · rw [cellsGo, if_neg hh] at g2
                    exact ⟨g1.2, List.append_cancel_left g2, .inr hh⟩
              by_cases hT : cellsOk l = true ∧ cellsB l = (b.drop y.toNat).take (q - y).toNat ∧ (l.head? = none ∨ l.head? ≠ some c)
              · rw [if_pos hT, if_pos (hiff.1 hT)]; rfl
              · rw [if_neg hT, if_neg (fun hh => hT (hiff.2 hh))]; rfl
            · rw [dif_neg (fun hh => hcl hh.2), if_neg]
              rintro ⟨g1, _, g3⟩
              simp only [Bool.and_eq_true] at g1
              rcases g3 with g3 | g3
              · cases g3
              · exact hcl ⟨g1.1, Ne.symm g3⟩
        · rw [dif_neg hk, dif_neg (fun hh => hk hh.1)]
/-- What is read: cells, and where they end. -/
def cellsRd (b : List UInt8) (p n : Int) : Option (List CellD × Int) := if (0 ≤ p ∧ p ≤ b.length) ∧ 0 ≤ n ∧ n ≤ 4000 then readC b n.toNat p none else none
def rdC (o : Option (List CellD × Int)) : List CellD := (o.map (·.1)).getD []
def rdE (o : Option (List CellD × Int)) : Int := (o.map (·.2)).getD 0
theorem many3 {b : List UInt8} {q : Int} (h : (getMany b 3 q).isSome = true) : (manyN (getMany b 3 q)).length = 3 ∧ (manyE (getMany b 3 q)).length = 3 ∧
    (0 ≤ gat encI (manyN (getMany b 3 q)) 0 ∧ gat encI (manyN (getMany b 3 q)) 0 ≤ 4294967295) ∧ (0 ≤ gat encI (manyN (getMany b 3 q)) 1 ∧ gat encI (manyN (getMany b 3 q)) 1 ≤ 4294967295) ∧ (0 ≤ gat encI (manyN (getMany b 3 q)) 2 ∧ gat encI (manyN (getMany b 3 q)) 2 ≤ 4294967295) ∧
    (0 ≤ gat encI (manyE (getMany b 3 q)) 2 ∧ gat encI (manyE (getMany b 3 q)) 2 ≤ b.length) ∧
    runAt b q = if naOk (gat encI (manyN (getMany b 3 q)) 2) = true then some ((gat encI (manyN (getMany b 3 q)) 0).toNat, ⟨gat encI (manyN (getMany b 3 q)) 1, naD (gat encI (manyN (getMany b 3 q)) 2)⟩, gat encI (manyE (getMany b 3 q)) 2) else none := by
  obtain ⟨l, hl⟩ := Option.isSome_iff_exists.1 h
  have hl2 := hl
  simp only [getMany] at hl2
  cases h1 : getAt b q with
  | none => simp [h1] at hl2
  | some v1 =>
    rw [h1] at hl2
    simp only at hl2
    cases h2 : getAt b (q + v1.2) with
    | none => simp [h2] at hl2
    | some v2 =>
      rw [h2] at hl2
      simp only at hl2
      cases h3 : getAt b (q + v1.2 + v2.2) with
      | none => simp [h3] at hl2
      | some v3 =>
        rw [h3] at hl2
        simp only [Option.map_some, Option.some.injEq] at hl2
        have g1 := getAt_some (n := v1.1) (k := v1.2) h1
        have g2 := getAt_some (n := v2.1) (k := v2.2) h2
        have g3 := getAt_some (n := v3.1) (k := v3.2) h3
        unfold runAt
        rw [hl, ← hl2]
        simp [manyN, manyE, gat]
        omega
theorem runAt_none {b : List UInt8} {q : Int} (h : (getMany b 3 q).isSome = false) : runAt b q = none := by
  unfold runAt
  cases hg : getMany b 3 q with
  | none => rfl
  | some x => rw [hg] at h; cases h
theorem gvE_some {q : Int} {v : Nat × Nat} : gvE q (some v) = q + v.2 := rfl
theorem runAt_gv (b : List UInt8) (q : Int) : runAt b q = if (((getAt b q).isSome = true ∧ (getAt b (gvE q (getAt b q))).isSome = true) ∧ (getAt b (gvE (gvE q (getAt b q)) (getAt b (gvE q (getAt b q))))).isSome = true) ∧ naOk (gvN (getAt b (gvE (gvE q (getAt b q)) (getAt b (gvE q (getAt b q)))))) = true then some ((gvN (getAt b q)).toNat, ⟨gvN (getAt b (gvE q (getAt b q))), naD (gvN (getAt b (gvE (gvE q (getAt b q)) (getAt b (gvE q (getAt b q))))))⟩, gvE (gvE (gvE q (getAt b q)) (getAt b (gvE q (getAt b q)))) (getAt b (gvE (gvE q (getAt b q)) (getAt b (gvE q (getAt b q)))))) else none := by
  unfold runAt
  simp only [getMany]
  cases h1 : getAt b q with
  | none => simp
  | some v1 =>
    rw [gvE_some]
    cases h2 : getAt b (q + v1.2) with
    | none => simp [h2]
    | some v2 =>
      rw [gvE_some]
      cases h3 : getAt b (q + v1.2 + v2.2) with
      | none => simp [h2, h3]
      | some v3 => simp [h2, h3, gvN, gvE]
theorem readC_stop {b : List UInt8} {left : Nat} {q : Int} {last : Option CellD} (hl : left ≠ 0) (h : runAt b q = none) : readC b left q last = none := by rw [readC, if_neg hl, h]
theorem readC_bad {b : List UInt8} {left k : Nat} {q y : Int} {c : CellD} {last : Option CellD} (hl : left ≠ 0) (h : runAt b q = some (k, c, y)) (hn : ¬ ((1 ≤ k ∧ k ≤ left) ∧ cellOk c = true ∧ last ≠ some c)) : readC b left q last = none := by
  rw [readC, if_neg hl, h]
  simp only
  rw [dif_neg hn]
theorem readC_next {b : List UInt8} {left k : Nat} {q y : Int} {c : CellD} {zs : List CellD} {last : Option CellD} (hl : left ≠ 0) (h : runAt b q = some (k, c, y)) (hn : (1 ≤ k ∧ k ≤ left) ∧ cellOk c = true ∧ last ≠ some c) :
    (readC b left q last).map (fun z => (zs ++ z.1, z.2)) = (readC b (left - k) y (zs ++ List.replicate k c).getLast?).map (fun z => (zs ++ List.replicate k c ++ z.1, z.2)) := by
  rw [readC, if_neg hl, h]
  simp only
  rw [dif_pos hn]
  have e : (zs ++ List.replicate k c).getLast? = some c := by
    obtain ⟨k', rfl⟩ : ∃ k', k = k' + 1 := ⟨k - 1, by omega⟩
    rw [List.replicate_succ', ← List.append_assoc]
    simp
  rw [e]
  cases readC b (left - k) y (some c) <;> simp
theorem readS_stop {b : List UInt8} {left : Nat} {q : Int} (hl : left ≠ 0) (h : runAt b q = none) : readS b left q = none := by rw [readS, if_neg hl, h]
theorem readS_bad {b : List UInt8} {left k : Nat} {q y : Int} {c : CellD} (hl : left ≠ 0) (h : runAt b q = some (k, c, y)) (hn : ¬ (1 ≤ k ∧ k ≤ left)) : readS b left q = none := by
  rw [readS, if_neg hl, h]
  simp only
  rw [dif_neg hn]
theorem readS_next {b : List UInt8} {left k : Nat} {q y : Int} {c : CellD} {zs : List CellD} (hl : left ≠ 0) (h : runAt b q = some (k, c, y)) (hn : 1 ≤ k ∧ k ≤ left) :
    (readS b left q).map (fun z => (zs ++ z.1, z.2)) = (readS b (left - k) y).map (fun z => (zs ++ List.replicate k c ++ z.1, z.2)) := by
  rw [readS, if_neg hl, h]
  simp only
  rw [dif_pos hn]
  cases readS b (left - k) y <;> simp
theorem last_gat {zs : List CellD} {c : CellD} : zs.getLast? = some c ↔ 0 < zs.length ∧ gat encCell zs (zs.length - 1) = c := by
  cases zs with
  | nil => simp
  | cons x r =>
    rw [List.getLast?_eq_getElem?, gat_get (F := encCell) (by simp)]
    simp
theorem cellsRd_S {b : List UInt8} {p n : Int} (h : (0 ≤ p ∧ p ≤ b.length) ∧ 0 ≤ n ∧ n ≤ 4000) : cellsRd b p n = match readS b n.toNat p with
      | none => none
      | some (l, q) => if cellsFine l = true ∧ cellsOut l = (b.drop p.toNat).take (q - p).toNat then some (l, q) else none := by
  unfold cellsRd
  rw [if_pos h, readC_readS _ _ _ h.1.1 h.1.2]
  cases hS : readS b n.toNat p with
  | none => rfl
  | some z =>
    obtain ⟨l, q⟩ := z
    have hle := readS_le _ h.1.1 h.1.2 hS
    simp only
    have e : cellsFine l = cellsOk l := by simp [cellsFine]; omega
    by_cases hk : cellsOk l = true
    · have e2 : cellsOut l = cellsB l := by unfold cellsOut; rw [e, if_pos hk]
      rw [e, e2]
      have hem : l = [] ∨ ¬ l = [] := Classical.em _
      simp [hk, hem]
    · rw [e]
      simp [hk]
theorem cellsRd_len {b : List UInt8} {p n : Int} : (rdC (cellsRd b p n)).length ≤ 4000 := by
  by_cases h : (0 ≤ p ∧ p ≤ b.length) ∧ 0 ≤ n ∧ n ≤ 4000
  · rw [cellsRd_S h]
    cases hS : readS b n.toNat p with
    | none => simp [rdC]
    | some z =>
      obtain ⟨l, q⟩ := z
      have hle := readS_le _ h.1.1 h.1.2 hS
      simp only
      split
      · simp [rdC]; omega
      · simp [rdC]
  · unfold cellsRd
    rw [if_neg h]
    simp [rdC]
end Go.Proofs.Ytlmcekfdlgkffaa
namespace Go.Proofs.Ytlmcekfdlgkffaa
open Go Go.RowKit
set_option linter.unusedVariables false
set_option linter.unusedSimpArgs false

/-- Where a reader stands; none where something was not there. -/
def rst (q : Int) (bad : Bool) : Option Int := if bad = true then none else some q
def rdN (s : List UInt8) : Option Int → Int
  | none => 0
  | some q => gvN (getAt s q)
def rdS (s : List UInt8) : Option Int → Option Int
  | none => none
  | some q => (getAt s q).map fun x => q + x.2
theorem rdS_none (s : List UInt8) : rdS s none = none := rfl
theorem rst_t {q : Int} : rst q true = none := rfl
theorem rst_f {q : Int} : rst q false = some q := rfl
theorem rst_next {s : List UInt8} {q : Int} : rst (gvE q (getAt s q)) (!(getAt s q).isSome) = rdS s (some q) := by
  cases h : getAt s q <;> simp [rst, rdS, h, gvE]
theorem rdN_bounds (s : List UInt8) (o : Option Int) : 0 ≤ rdN s o ∧ rdN s o ≤ 4294967295 := by
  cases o with
  | none => simp [rdN]
  | some q => exact ⟨(gv_bounds s q).1, (gv_bounds s q).2.1⟩
def txtAt (s : List UInt8) (q : Int) : Option (ByteArray × Int) :=
  if ((getAt s q).isSome = true ∧ gvN (getAt s q) ≤ 4000) ∧ gvN (getAt s q) ≤ s.length - gvE q (getAt s q) then some (⟨((s.drop (gvE q (getAt s q)).toNat).take (gvN (getAt s q)).toNat).toArray⟩, gvE q (getAt s q) + gvN (getAt s q)) else none
def txT : Option (ByteArray × Int) → ByteArray
  | none => ⟨#[]⟩
  | some x => x.1
def txE : Option (ByteArray × Int) → Int
  | none => 0
  | some x => x.2
theorem txt_bounds (s : List UInt8) (q : Int) : (txT (txtAt s q)).size ≤ 4000 ∧ 0 ≤ txE (txtAt s q) ∧ txE (txtAt s q) ≤ s.length := by
  have hg := gv_bounds s q
  unfold txtAt
  split
  · rename_i h
    simp only [txT, txE]
    refine ⟨?_, by omega, by omega⟩
    show (List.toArray _).size ≤ 4000
    simp only [List.size_toArray, List.length_take]
    omega
  · simp [txT, txE, ByteArray.size]
def rdT (s : List UInt8) : Option Int → ByteArray
  | none => ⟨#[]⟩
  | some q => txT (txtAt s q)
def rdTS (s : List UInt8) : Option Int → Option Int
  | none => none
  | some q => (txtAt s q).map (·.2)
theorem rdT_size (s : List UInt8) (o : Option Int) : (rdT s o).size ≤ 4000 := by
  cases o with
  | none => simp [rdT, ByteArray.size]
  | some q => exact (txt_bounds s q).1
theorem rst_text {s : List UInt8} {q : Int} : rst (txE (txtAt s q)) (!(txtAt s q).isSome) = rdTS s (some q) := by
  cases h : txtAt s q <;> simp [rst, rdTS, h, txE]
/-- So many numbers, up to the first that is not there. -/
def rdVars (s : List UInt8) : Nat → Option Int → List Int × Option Int
  | 0, o => ([], o)
  | m + 1, none => ([], none)
  | m + 1, some q => (rdN s (some q) :: (rdVars s m (rdS s (some q))).1, (rdVars s m (rdS s (some q))).2)
theorem rdVars_none (s : List UInt8) (m : Nat) : rdVars s m none = ([], none) := by cases m <;> rfl
theorem rdVars_len (s : List UInt8) : ∀ (m : Nat) (o : Option Int), (rdVars s m o).1.length ≤ m
  | 0, o => by simp [rdVars]
  | m + 1, none => by simp [rdVars]
  | m + 1, some q => by
    have := rdVars_len s m (rdS s (some q))
    simp only [rdVars, List.length_cons]; omega
theorem rdVars_bounds (s : List UInt8) : ∀ (m : Nat) (o : Option Int) (x : Int), x ∈ (rdVars s m o).1 → 0 ≤ x ∧ x ≤ 4294967295
  | 0, o, x, h => by simp [rdVars] at h
  | m + 1, none, x, h => by simp [rdVars] at h
  | m + 1, some q, x, h => by
    simp only [rdVars, List.mem_cons] at h
    rcases h with rfl | h
    · exact rdN_bounds s _
    · exact rdVars_bounds s m _ x h
/-! an operation -/
structure OpV where
  K : Int
  A : Int
  B : Int
  C : Int
  nm : ByteArray
  tx : ByteArray
  dr : ByteArray
  xs : List UInt8
def opS (s : List UInt8) : Nat → Option Int
  | 0 => some 0
  | 1 => rdS s (some 0)
  | 2 => rdS s (rdS s (some 0))
  | 3 => rdS s (rdS s (rdS s (some 0)))
  | 4 => rdS s (rdS s (rdS s (rdS s (some 0))))
  | 5 => rdTS s (rdS s (rdS s (rdS s (rdS s (some 0)))))
  | 6 => rdTS s (rdTS s (rdS s (rdS s (rdS s (rdS s (some 0))))))
  | 7 => rdTS s (rdTS s (rdTS s (rdS s (rdS s (rdS s (rdS s (some 0)))))))
  | _ => rdTS s (rdTS s (rdTS s (rdTS s (rdS s (rdS s (rdS s (rdS s (some 0))))))))
def opVal (s : List UInt8) : OpV := ⟨rdN s (opS s 0), rdN s (opS s 1), rdN s (opS s 2), rdN s (opS s 3), rdT s (opS s 4), rdT s (opS s 5), rdT s (opS s 6), (rdT s (opS s 7)).data.toList⟩
def opVOk (v : OpV) : Bool := opOk v.K v.A v.B v.C v.nm v.tx v.dr v.xs.length
def opVB (v : OpV) : List UInt8 := opB v.K v.A v.B v.C v.nm v.tx v.dr v.xs
def opRdOk (s : List UInt8) : Bool := ((opS s 8).isSome && opVOk (opVal s)) && decide (opVB (opVal s) = s)
def opRes (s : List UInt8) : OpV := if opRdOk s = true then opVal s else ⟨0, 0, 0, 0, ⟨#[]⟩, ⟨#[]⟩, ⟨#[]⟩, []⟩
theorem opRes_no {s : List UInt8} (h : opRdOk s = false) : opRes s = ⟨0, 0, 0, 0, ⟨#[]⟩, ⟨#[]⟩, ⟨#[]⟩, []⟩ := by unfold opRes; rw [h]; rfl
theorem opRes_yes {s : List UInt8} (h : opRdOk s = true) : opRes s = opVal s := by unfold opRes; rw [if_pos h]
theorem opVal_sizes (s : List UInt8) : (opVal s).nm.size ≤ 4000 ∧ (opVal s).tx.size ≤ 4000 ∧ (opVal s).dr.size ≤ 4000 ∧ (opVal s).xs.length ≤ 4000 := by
  refine ⟨rdT_size s _, rdT_size s _, rdT_size s _, ?_⟩
  have := rdT_size s (opS s 7)
  have e : (opVal s).xs.length = (rdT s (opS s 7)).size := by simp [opVal]
  omega
theorem opRes_sizes (s : List UInt8) : (opRes s).nm.size ≤ 4000 ∧ (opRes s).tx.size ≤ 4000 ∧ (opRes s).dr.size ≤ 4000 ∧ (opRes s).xs.length ≤ 4000 := by
  unfold opRes
  split
  · exact opVal_sizes s
  · simp [ByteArray.size]
theorem rdVars4 (s : List UInt8) : (rdVars s 4 (some 0)).2 = opS s 4 := by
  simp only [opS]
  rw [rdVars]
  simp only
  cases h1 : rdS s (some 0) with
  | none => simp [rdVars, rdS_none]
  | some q1 =>
    rw [rdVars]
    simp only
    cases h2 : rdS s (some q1) with
    | none => simp [rdVars, rdS_none]
    | some q2 =>
      rw [rdVars]
      simp only
      cases h3 : rdS s (some q2) with
      | none => simp [rdVars, rdS_none]
      | some q3 => simp [rdVars]
theorem rdVars4_ok {s : List UInt8} (h : (opS s 4).isSome = true) : (rdVars s 4 (some 0)).1 = [rdN s (opS s 0), rdN s (opS s 1), rdN s (opS s 2), rdN s (opS s 3)] := by
  simp only [opS] at h ⊢
  rw [rdVars]
  simp only
  cases h1 : rdS s (some 0) with
  | none => simp [h1, rdS_none] at h
  | some q1 =>
    rw [rdVars]
    simp only
    cases h2 : rdS s (some q1) with
    | none => simp [h1, h2, rdS_none] at h
    | some q2 =>
      rw [rdVars]
      simp only
      cases h3 : rdS s (some q2) with
      | none => simp [h1, h2, h3, rdS_none] at h
      | some q3 => simp [rdVars]
theorem rdTS_some {s : List UInt8} {o : Option Int} (h : (rdTS s o).isSome = true) : o.isSome = true := by
  cases o with
  | none => simp [rdTS] at h
  | some q => rfl
theorem rdVars_stop {s : List UInt8} {m i : Nat} {q : Int} {bad : Bool} (h : m ≤ i ∨ bad = true) : rdVars s (m - i) (rst q bad) = ([], rst q bad) := by
  rcases h with h | h
  · rw [show m - i = 0 from by omega]; rfl
  · subst h; exact rdVars_none s _
theorem rdVars_step {s : List UInt8} {m i : Nat} {q : Int} (h : i < m) : rdVars s (m - i) (rst q false) = (rdN s (rst q false) :: (rdVars s (m - (i + 1)) (rdS s (rst q false))).1, (rdVars s (m - (i + 1)) (rdS s (rst q false))).2) := by
  rw [show m - i = m - (i + 1) + 1 from by omega]; rfl
theorem gat_ext {α : Type} {F : Enc α} {a b : List α} (hl : a.length = b.length) (h : ∀ j, j < a.length → gat F a j = gat F b j) : a = b := by
  apply List.ext_getElem hl
  intro i h1 h2
  have e1 := gat_get (F := F) h1
  have e2 := gat_get (F := F) h2
  rw [List.getElem?_eq_getElem h1] at e1
  rw [List.getElem?_eq_getElem h2] at e2
  rw [Option.some.inj e1, Option.some.inj e2]
  exact h i h1
theorem u8_inj {a b : UInt8} (h : (a.toNat : Int) = (b.toNat : Int)) : a = b := UInt8.toNat_inj.1 (by omega)
end Go.Proofs.Ytlmcekfdlgkffaa
