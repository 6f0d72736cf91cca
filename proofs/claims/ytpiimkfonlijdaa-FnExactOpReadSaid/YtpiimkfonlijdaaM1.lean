/-
  Plain definitions and laws: numbers, characters, operations. No program in sight.
-/
import Derived.Test.YtpiimkfonlijdaaD1
namespace Go.Proofs.Ytpiimkfonlijdaa
open Go Go.RowKit
set_option linter.unusedVariables false
set_option linter.unusedSimpArgs false

def within (n lo hi : Int) : Bool := decide (lo ≤ n) && decide (n ≤ hi)
theorem within_iff {n lo hi : Int} : within n lo hi = true ↔ lo ≤ n ∧ n ≤ hi := by simp [within]
theorem within_not {n lo hi : Int} : within n lo hi = false ↔ ¬ (lo ≤ n ∧ n ≤ hi) := by rw [← within_iff]; simp
def shows (n : Int) : Bool := within n 32 126 || within n 160 65535 && !within n 55296 57343
/-- A small letter or a digit. -/
def wordB (c : Int) : Bool := decide (97 ≤ c) && decide (c ≤ 122) || decide (48 ≤ c) && decide (c ≤ 57)
/-- Every byte up to k is good. -/
def upto (p : UInt8 → Bool) (s : ByteArray) (k : Nat) : Prop := ∀ j, j < k → p (sbyte s j) = true
def allB (p : UInt8 → Bool) (s : ByteArray) : Bool := s.data.toList.all p
theorem sbyte_get {s : ByteArray} {j : Nat} (h : j < s.size) : s.data.toList[j]? = some (sbyte s j) := by
  unfold sbyte
  have : j < s.data.toList.length := by simpa using h
  rw [List.getD_eq_getElem?_getD, List.getElem?_eq_getElem this]; rfl
theorem allB_true {p : UInt8 → Bool} {s : ByteArray} {k : Nat} (h : upto p s k) (hk : s.size ≤ k) : allB p s = true := by
  unfold allB
  rw [List.all_eq_true]
  intro x hx
  obtain ⟨j, hj, rfl⟩ := List.mem_iff_getElem.1 hx
  have hj' : j < s.size := by simpa using hj
  have h1 := sbyte_get hj'
  rw [List.getElem?_eq_getElem hj] at h1
  rw [Option.some.inj h1]
  exact h j (by omega)
theorem allB_false {p : UInt8 → Bool} {s : ByteArray} {k : Nat} (hk : k < s.size) (h : p (sbyte s k) = false) : allB p s = false := by
  unfold allB
  rw [← Bool.not_eq_true, List.all_eq_true]
  intro hh
  have := hh (sbyte s k) (List.mem_of_getElem? (sbyte_get hk))
  rw [h] at this
  cases this
theorem upto_zero {p : UInt8 → Bool} {s : ByteArray} : upto p s 0 := fun _ h => absurd h (by omega)
theorem upto_succ {p : UInt8 → Bool} {s : ByteArray} {k : Nat} (h : upto p s k) (hk : p (sbyte s k) = true) : upto p s (k + 1) := fun j hj => by
  rcases Nat.lt_or_ge j k with h1 | h1
  · exact h j h1
  · have : j = k := by omega
    subst this; exact hk
def plainB (more : ByteArray) (c : UInt8) : Bool := wordB c.toNat || decide (0 ≤ firstIdx more c)
def isPlain (s : ByteArray) (most : Int) (more : ByteArray) : Bool := allB (plainB more) s && within s.size 1 most
def wordOk (s : ByteArray) : Bool := isPlain s 12 ByteArray.empty
theorem firstIdx_empty (c : UInt8) : firstIdx ByteArray.empty c = -1 := rfl
theorem plainB_empty (c : UInt8) : plainB ByteArray.empty c = wordB c.toNat := by
  unfold plainB
  rw [firstIdx_empty]
  simp
theorem wordB_of {c : Int} (h : ((decide (c < 97) || decide (122 < c)) && (decide (c < 48) || decide (57 < c))) = false) : wordB c = true := by
  simp [wordB] at h ⊢; omega
theorem wordB_not {c : Int} (h : ((decide (c < 97) || decide (122 < c)) && (decide (c < 48) || decide (57 < c))) = true) : wordB c = false := by
  simp [wordB] at h ⊢; omega
def isNumB (n : Int) : Bool := decide (0 ≤ n) && decide (n ≤ 4294967295)
def isCmd (s : ByteArray) : Bool := decide (s.size ≤ 60)
def isId (n : Int) : Bool := within n 1 1000000
def isLength (n : Int) : Bool := within n 1 120
def isSide (n : Int) : Bool := decide (n = 76) || decide (n = 82) || decide (n = 85) || decide (n = 68)
/-- Which fields a kind has. -/
def has (k : Int) : List Bool :=
  if k = 1 ∨ k = 2 then [false, false, false, true, true, false]
  else if k = 3 then [true, true, false, false, true, false]
  else if k = 5 then [true, false, false, false, false, true]
  else if k = 6 ∨ k = 9 ∨ k = 12 ∨ k = 13 then [true, true, false, false, false, false]
  else if k = 10 then [true, true, true, false, false, false]
  else if k = 11 then [true, false, false, true, false, false]
  else [true, false, false, false, false, false]
def hasAt (k : Int) (i : Nat) : Bool := (has k).getD i false
def hasL (k : Int) : List Value := [.bool (hasAt k 0), .bool (hasAt k 1), .bool (hasAt k 2), .bool (hasAt k 3), .bool (hasAt k 4), .bool (hasAt k 5)]
def fieldIn (h : Bool) (n lo hi : Int) : Bool := bif h then decide (lo ≤ n) && decide (n ≤ hi) else decide (n = 0)
def noText (s : ByteArray) : Bool := decide (s = { data := #[] })
/-- Is the operation valid? -/
def opOk (k a b c : Int) (nm tx dr : ByteArray) (n : Nat) : Bool :=
  if k = 1 ∨ k = 2 then wordOk nm && isCmd tx && isCmd dr && (decide (a = 0) && decide (b = 0) && decide (c = 0) && decide (n = 0))
  else if k = 3 then isId a && within b 0 1 && isCmd tx && isCmd dr && (decide (c = 0) && noText nm && decide (n = 0))
  else if k = 4 ∨ k = 7 ∨ k = 14 ∨ k = 8 then isId a && (decide (b = 0) && decide (c = 0) && noText nm && noText tx && noText dr && decide (n = 0))
  else if k = 5 then isId a && within n 1 2000 && (decide (b = 0) && decide (c = 0) && noText nm && noText tx && noText dr)
  else if k = 6 then isId a && within b 0 255 && (decide (c = 0) && noText nm && noText tx && noText dr && decide (n = 0))
  else if k = 9 ∨ k = 13 then isId a && isId b && (decide (c = 0) && noText nm && noText tx && noText dr && decide (n = 0))
  else if k = 10 then isId a && isSide b && isLength c && (noText nm && noText tx && noText dr && decide (n = 0))
  else if k = 11 then isId a && wordOk nm && (decide (b = 0) && decide (c = 0) && noText tx && noText dr && decide (n = 0))
  else if k = 12 then isLength a && isLength b && (decide (c = 0) && noText nm && noText tx && noText dr && decide (n = 0))
  else false
/-- The same, field after field. -/
def opOkS (k a b c : Int) (nm tx dr : ByteArray) (n : Nat) : Bool :=
  if k < 1 ∨ 14 < k then false else
  !(!fieldIn (hasAt k 0) a 1 (if k = 12 then 120 else 1000000) || !fieldIn (hasAt k 1) b (if k = 12 then 1 else if k = 3 then 0 else if k = 6 then 0 else if k = 10 then 68 else 1) (if k = 12 then 120 else if k = 3 then 1 else if k = 6 then 255 else if k = 10 then 85 else 1000000)
    || !fieldIn (hasAt k 2) c 1 120 || !fieldIn (hasAt k 5) n 1 2000) &&
  !(decide (k = 10) && !decide (b = 76) && !decide (b = 82) && !decide (b = 85) && !decide (b = 68)) &&
  !(hasAt k 3 && !wordOk nm || !hasAt k 3 && !noText nm || !hasAt k 4 && (!noText tx || !noText dr)) &&
  (isCmd tx && isCmd dr)
theorem noText_size {s : ByteArray} (h : noText s = true) : isCmd s = true := by
  have : s = { data := #[] } := by simpa [noText] using h
  subst this; rfl
theorem opOk_eq (k a b c : Int) (nm tx dr : ByteArray) (n : Nat) : opOk k a b c nm tx dr n = opOkS k a b c nm tx dr n := by
  by_cases hk : k < 1 ∨ 14 < k
  · have : ¬ (k = 1 ∨ k = 2) ∧ k ≠ 3 ∧ ¬ (k = 4 ∨ k = 7 ∨ k = 14 ∨ k = 8) ∧ k ≠ 5 ∧ k ≠ 6 ∧ ¬ (k = 9 ∨ k = 13) ∧ k ≠ 10 ∧ k ≠ 11 ∧ k ≠ 12 := by omega
    simp [opOk, opOkS, hk, this]
  · have e : k = 1 ∨ k = 2 ∨ k = 3 ∨ k = 4 ∨ k = 5 ∨ k = 6 ∨ k = 7 ∨ k = 8 ∨ k = 9 ∨ k = 10 ∨ k = 11 ∨ k = 12 ∨ k = 13 ∨ k = 14 := by omega
    have t1 := @noText_size tx
    have t2 := @noText_size dr
    have e3 : isSide b = true → 68 ≤ b ∧ b ≤ 85 := by simp [isSide]; omega
    rcases e with rfl | rfl | rfl | rfl | rfl | rfl | rfl | rfl | rfl | rfl | rfl | rfl | rfl | rfl <;>
      simp only [opOk, opOkS, hasAt, has, fieldIn] <;> simp [isId, isLength, within] <;> rw [Bool.eq_iff_iff] <;> simp <;> grind [isSide]
/-- What is left of a budget. -/
def szR (left total : Int) : Int := if total ≤ left then left - total else -1
end Go.Proofs.Ytpiimkfonlijdaa
