/-
  Plain laws: the encoding of numbers, of texts and of operations.
-/
import Derived.Test.YtpiimkfonlijdaaM1
namespace Go.Proofs.Ytpiimkfonlijdaa
open Go Go.RowKit
set_option linter.unusedVariables false
set_option linter.unusedSimpArgs false

/-- The encoding of a number. -/
def varL (n : Nat) : List UInt8 := if n < 128 then [UInt8.ofNat n] else UInt8.ofNat (n % 128 + 128) :: varL (n / 128)
termination_by n
decreasing_by omega
theorem varL_small {n : Nat} (h : n < 128) : varL n = [UInt8.ofNat n] := by rw [varL, if_pos h]
theorem varL_big {n : Nat} (h : ¬ n < 128) : varL n = UInt8.ofNat (n % 128 + 128) :: varL (n / 128) := by rw [varL, if_neg h]
theorem ub_small {k : Int} (h0 : 0 ≤ k) (h : k < 128) : [ub k] = varL k.toNat := by
  rw [varL_small (by omega)]
  unfold ub
  congr 2
  omega
theorem ub_big {k : Int} (h : 128 ≤ k) : ub (k % 128 + 128) :: varL (k / 128).toNat = varL k.toNat := by
  rw [varL_big (n := k.toNat) (by omega)]
  unfold ub
  have e1 : ((k % 128 + 128) % 256).toNat = k.toNat % 128 + 128 := by omega
  have e2 : (k / 128).toNat = k.toNat / 128 := by omega
  rw [e1, e2]
theorem varL_len (n : Nat) (h : n < 34359738368) : (varL n).length ≤ 5 := by
  have step : ∀ n, (varL n).length ≤ 1 + (if n < 128 then 0 else (varL (n / 128)).length) := by
    intro n
    by_cases h : n < 128
    · rw [varL_small h, if_pos h]; simp
    · rw [varL_big h, if_neg h]; simp; omega
  have h1 := step n
  have h2 := step (n / 128)
  have h3 := step (n / 128 / 128)
  have h4 := step (n / 128 / 128 / 128)
  have h5 := step (n / 128 / 128 / 128 / 128)
  have h6 : n / 128 / 128 / 128 / 128 < 128 := by omega
  rw [if_pos h6] at h5
  split at h1 <;> split at h2 <;> split at h3 <;> split at h4 <;> omega
/-- Numbers one after another. -/
def numsL (l : List Int) : List UInt8 := l.flatMap fun n => varL n.toNat
theorem numsL_take {l : List Int} {i : Nat} (h : i < l.length) : numsL (l.take (i + 1)) = numsL (l.take i) ++ varL (iat l i).toNat := by
  unfold numsL
  rw [List.take_add_one, gat_get (F := encI) h, List.flatMap_append]
  simp
theorem numsL_len : ∀ {l : List Int}, (∀ x, x ∈ l → x ≤ 34359738367) → (numsL l).length ≤ 5 * l.length
  | [], _ => by simp [numsL]
  | x :: r, h => by
    have h1 := numsL_len (l := r) fun y hy => h y (List.mem_cons_of_mem _ hy)
    have h2 := varL_len x.toNat (by have := h x List.mem_cons_self; omega)
    have e : numsL (x :: r) = varL x.toNat ++ numsL r := rfl
    rw [e, List.length_append, List.length_cons]
    omega
/-- A text: its length, then its bytes. -/
def textL (s : ByteArray) : List UInt8 := varL s.size ++ s.data.toList
def textsL (l : List ByteArray) : List UInt8 := l.flatMap textL
theorem textsL_take {l : List ByteArray} {i : Nat} (h : i < l.length) : textsL (l.take (i + 1)) = textsL (l.take i) ++ textL (gat encS l i) := by
  unfold textsL
  rw [List.take_add_one, gat_get (F := encS) h, List.flatMap_append]
  simp
theorem textL_len {s : ByteArray} (h : s.size ≤ 34359738367) : (textL s).length ≤ 5 + s.size := by
  have := varL_len s.size (by omega)
  unfold textL
  rw [List.length_append]
  simp; omega
theorem textsL_len {m : Nat} : ∀ {l : List ByteArray}, (∀ x, x ∈ l → x.size ≤ m) → m ≤ 34359738367 → (textsL l).length ≤ (5 + m) * l.length
  | [], _, _ => by simp [textsL]
  | x :: r, h, hm => by
    have h1 := textsL_len (l := r) (fun y hy => h y (List.mem_cons_of_mem _ hy)) hm
    have h0 := h x List.mem_cons_self
    have h2 := textL_len (s := x) (by omega)
    have e : textsL (x :: r) = textL x ++ textsL r := rfl
    rw [e, List.length_append, List.length_cons, Nat.mul_succ]
    omega
/-- An operation's encoding. -/
def opB (k a b c : Int) (nm tx dr : ByteArray) (xs : List UInt8) : List UInt8 :=
  if opOk k a b c nm tx dr xs.length = true then numsL [k, a, b, c] ++ textsL [nm, tx, dr, ⟨xs.toArray⟩] else []
theorem opOk_bounds {k a b c : Int} {nm tx dr : ByteArray} {n : Nat} (h : opOk k a b c nm tx dr n = true) : (1 ≤ k ∧ k ≤ 14) ∧ (0 ≤ a ∧ a ≤ 1000000) ∧ (0 ≤ b ∧ b ≤ 1000000) ∧ (0 ≤ c ∧ c ≤ 1000000) ∧ nm.size ≤ 12 ∧ tx.size ≤ 60 ∧ dr.size ≤ 60 ∧ n ≤ 2000 := by
  have hw : ∀ {s}, wordOk s = true → s.size ≤ 12 := fun {s} h => by
    unfold wordOk isPlain at h
    simp [within] at h
    omega
  have ht : ∀ {s : ByteArray}, noText s = true → s.size = 0 := fun {s} h => by
    have : s = { data := #[] } := by simpa [noText] using h
    subst this; rfl
  have hw1 := @hw nm
  have h1 := @ht nm
  have h2 := @ht tx
  have h3 := @ht dr
  unfold opOk at h
  (repeat' split at h) <;> simp [isCmd, isId, isLength, isSide, within] at h <;> grind
theorem opB_len (k a b c : Int) (nm tx dr : ByteArray) (xs : List UInt8) : (opB k a b c nm tx dr xs).length ≤ 9000 := by
  unfold opB
  split
  · rename_i h
    have hb := opOk_bounds h
    have h1 := numsL_len (l := [k, a, b, c]) (by intro x hx; simp at hx; omega)
    have h2 := textsL_len (m := 2000) (l := [nm, tx, dr, ⟨xs.toArray⟩]) (by
      intro x hx
      simp at hx
      have hz : (ByteArray.mk xs.toArray).size = xs.length := by simp [ByteArray.size]
      rcases hx with rfl | rfl | rfl | rfl <;> omega) (by omega)
    simp only [List.length_append, List.length_cons, List.length_nil] at *
    omega
  · simp
end Go.Proofs.Ytpiimkfonlijdaa
