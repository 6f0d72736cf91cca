/-
  Plain definitions and laws: numbers, characters, operations. No program in sight.
  Plain laws: the encoding of numbers, of texts and of operations.
  Plain laws: attributes, cells, runs of cells.
-/
import Derived.Test.YtlmcekfdlgkffaaD1
namespace Go.Proofs.Ytlmcekfdlgkffaa
open Go Go.RowKit
set_option linter.unusedVariables false
set_option linter.unusedSimpArgs false

def within (n lo hi : Int) : Bool := decide (lo ≤ n) && decide (n ≤ hi)
theorem within_iff {n lo hi : Int} : within n lo hi = true ↔ lo ≤ n ∧ n ≤ hi := by simp [within]
theorem within_not {n lo hi : Int} : within n lo hi = false ↔ ¬ (lo ≤ n ∧ n ≤ hi) := by rw [← within_iff]; simp
def shows (n : Int) : Bool := within n 32 126 || within n 160 65535 && !within n 55296 57343
/-- A small letter or a digit. -/
def wordB (c : Int) : Bool := decide (97 ≤ c) && decide (c ≤ 122) || decide (48 ≤ c) && decide (c ≤ 57)
/-- Every byte up to k is good. -/
def upto (p : UInt8 → Bool) (s : ByteArray) (k : Nat) : Prop := ∀ j, j < k → p (sbyte s j) = true
def allB (p : UInt8 → Bool) (s : ByteArray) : Bool := s.data.toList.all p
theorem sbyte_get {s : ByteArray} {j : Nat} (h : j < s.size) : s.data.toList[j]? = some (sbyte s j) := by
  unfold sbyte
  have : j < s.data.toList.length := by simpa using h
  rw [List.getD_eq_getElem?_getD, List.getElem?_eq_getElem this]; rfl
theorem allB_true {p : UInt8 → Bool} {s : ByteArray} {k : Nat} (h : upto p s k) (hk : s.size ≤ k) : allB p s = true := by
  unfold allB
  rw [List.all_eq_true]
  intro x hx
  obtain ⟨j, hj, rfl⟩ := List.mem_iff_getElem.1 hx
  have hj' : j < s.size := by simpa using hj
  have h1 := sbyte_get hj'
  rw [List.getElem?_eq_getElem hj] at h1
  rw [Option.some.inj h1]
  exact h j (by omega)
theorem allB_false {p : UInt8 → Bool} {s : ByteArray} {k : Nat} (hk : k < s.size) (h : p (sbyte s k) = false) : allB p s = false := by
  unfold allB
  rw [← Bool.not_eq_true, List.all_eq_true]
  intro hh
  have := hh (sbyte s k) (List.mem_of_getElem? (sbyte_get hk))
  rw [h] at this
  cases this
theorem upto_zero {p : UInt8 → Bool} {s : ByteArray} : upto p s 0 := fun _ h => absurd h (by omega)
theorem upto_succ {p : UInt8 → Bool} {s : ByteArray} {k : Nat} (h : upto p s k) (hk : p (sbyte s k) = true) : upto p s (k + 1) := fun j hj => by
  rcases Nat.lt_or_ge j k with h1 | h1
  · exact h j h1
  · have : j = k := by omega
    subst this; exact hk
def plainB (more : ByteArray) (c : UInt8) : Bool := wordB c.toNat || decide (0 ≤ firstIdx more c)
def isPlain (s : ByteArray) (most : Int) (more : ByteArray) : Bool := allB (plainB more) s && within s.size 1 most
def wordOk (s : ByteArray) : Bool := isPlain s 12 ByteArray.empty
theorem firstIdx_empty (c : UInt8) : firstIdx ByteArray.empty c = -1 := rfl
theorem plainB_empty (c : UInt8) : plainB ByteArray.empty c = wordB c.toNat := by
  unfold plainB
  rw [firstIdx_empty]
  simp
theorem wordB_of {c : Int} (h : ((decide (c < 97) || decide (122 < c)) && (decide (c < 48) || decide (57 < c))) = false) : wordB c = true := by
  simp [wordB] at h ⊢; omega
theorem wordB_not {c : Int} (h : ((decide (c < 97) || decide (122 < c)) && (decide (c < 48) || decide (57 < c))) = true) : wordB c = false := by
  simp [wordB] at h ⊢; omega
def isNumB (n : Int) : Bool := decide (0 ≤ n) && decide (n ≤ 4294967295)
def isCmd (s : ByteArray) : Bool := decide (s.size ≤ 60)
def isId (n : Int) : Bool := within n 1 1000000
def isLength (n : Int) : Bool := within n 1 120
def isSide (n : Int) : Bool := decide (n = 76) || decide (n = 82) || decide (n = 85) || decide (n = 68)
/-- Which fields a kind has. -/
def has (k : Int) : List Bool :=
  if k = 1 ∨ k = 2 then [false, false, false, true, true, false]
  else if k = 3 then [true, true, false, false, true, false]
  else if k = 5 then [true, false, false, false, false, true]
  else if k = 6 ∨ k = 9 ∨ k = 12 ∨ k = 13 then [true, true, false, false, false, false]
  else if k = 10 then [true, true, true, false, false, false]
  else if k = 11 then [true, false, false, true, false, false]
  else [true, false, false, false, false, false]
def hasAt (k : Int) (i : Nat) : Bool := (has k).getD i false
def hasL (k : Int) : List Value := [.bool (hasAt k 0), .bool (hasAt k 1), .bool (hasAt k 2), .bool (hasAt k 3), .bool (hasAt k 4), .bool (hasAt k 5)]
def fieldIn (h : Bool) (n lo hi : Int) : Bool := bif h then decide (lo ≤ n) && decide (n ≤ hi) else decide (n = 0)
def noText (s : ByteArray) : Bool := decide (s = { data := #[] })
/-- Is the operation valid? -/
def opOk (k a b c : Int) (nm tx dr : ByteArray) (n : Nat) : Bool :=
  if k = 1 ∨ k = 2 then wordOk nm && isCmd tx && isCmd dr && (decide (a = 0) && decide (b = 0) && decide (c = 0) && decide (n = 0))
  else if k = 3 then isId a && within b 0 1 && isCmd tx && isCmd dr && (decide (c = 0) && noText nm && decide (n = 0))
  else if k = 4 ∨ k = 7 ∨ k = 14 ∨ k = 8 then isId a && (decide (b = 0) && decide (c = 0) && noText nm && noText tx && noText dr && decide (n = 0))
  else if k = 5 then isId a && within n 1 2000 && (decide (b = 0) && decide (c = 0) && noText nm && noText tx && noText dr)
  else if k = 6 then isId a && within b 0 255 && (decide (c = 0) && noText nm && noText tx && noText dr && decide (n = 0))
  else if k = 9 ∨ k = 13 then isId a && isId b && (decide (c = 0) && noText nm && noText tx && noText dr && decide (n = 0))
  else if k = 10 then isId a && isSide b && isLength c && (noText nm && noText tx && noText dr && decide (n = 0))
  else if k = 11 then isId a && wordOk nm && (decide (b = 0) && decide (c = 0) && noText tx && noText dr && decide (n = 0))
  else if k = 12 then isLength a && isLength b && (decide (c = 0) && noText nm && noText tx && noText dr && decide (n = 0))
  else false
/-- The same, field after field. -/
def opOkS (k a b c : Int) (nm tx dr : ByteArray) (n : Nat) : Bool :=
  if k < 1 ∨ 14 < k then false else
  !(!fieldIn (hasAt k 0) a 1 (if k = 12 then 120 else 1000000) || !fieldIn (hasAt k 1) b (if k = 12 then 1 else if k = 3 then 0 else if k = 6 then 0 else if k = 10 then 68 else 1) (if k = 12 then 120 else if k = 3 then 1 else if k = 6 then 255 else if k = 10 then 85 else 1000000)
    || !fieldIn (hasAt k 2) c 1 120 || !fieldIn (hasAt k 5) n 1 2000) &&
  !(decide (k = 10) && !decide (b = 76) && !decide (b = 82) && !decide (b = 85) && !decide (b = 68)) &&
  !(hasAt k 3 && !wordOk nm || !hasAt k 3 && !noText nm || !hasAt k 4 && (!noText tx || !noText dr)) &&
  (isCmd tx && isCmd dr)
theorem noText_size {s : ByteArray} (h : noText s = true) : isCmd s = true := by
  have : s = { data := #[] } := by simpa [noText] using h
  subst this; rfl
theorem opOk_eq (k a b c : Int) (nm tx dr : ByteArray) (n : Nat) : opOk k a b c nm tx dr n = opOkS k a b c nm tx dr n := by
  by_cases hk : k < 1 ∨ 14 < k
  · have : ¬ (k = 1 ∨ k = 2) ∧ k ≠ 3 ∧ ¬ (k = 4 ∨ k = 7 ∨ k = 14 ∨ k = 8) ∧ k ≠ 5 ∧ k ≠ 6 ∧ ¬ (k = 9 ∨ k = 13) ∧ k ≠ 10 ∧ k ≠ 11 ∧ k ≠ 12 := by omega
    simp [opOk, opOkS, hk, this]
  · have e : k = 1 ∨ k = 2 ∨ k = 3 ∨ k = 4 ∨ k = 5 ∨ k = 6 ∨ k = 7 ∨ k = 8 ∨ k = 9 ∨ k = 10 ∨ k = 11 ∨ k = 12 ∨ k = 13 ∨ k = 14 := by omega
    have t1 := @noText_size tx
    have t2 := @noText_size dr
    have e3 : isSide b = true → 68 ≤ b ∧ b ≤ 85 := by simp [isSide]; omega
    rcases e with rfl | rfl | rfl | rfl | rfl | rfl | rfl | rfl | rfl | rfl | rfl | rfl | rfl | rfl <;>
      simp only [opOk, opOkS, hasAt, has, fieldIn] <;> simp [isId, isLength, within] <;> rw [Bool.eq_iff_iff] <;> simp <;> grind [isSide]
/-- What is left of a budget. -/
def szR (left total : Int) : Int := if total ≤ left then left - total else -1
theorem szR_b {a n : Int} (h : ¬ szR a n < 0) (hn : 0 ≤ n) (ha : a ≤ 1048576) : szR a n ≤ 1048576 := by unfold szR at *; split at * <;> omega
theorem szR_ok {a n : Int} (h : ¬ szR a n < 0) (hn : 0 ≤ n) : szR a n = a - n ∧ n ≤ a := by unfold szR at *; split at * <;> omega
theorem szR_no {a n : Int} (h : szR a n < 0) : a < n := by unfold szR at *; split at * <;> omega
theorem szR_lt {a n : Int} (h : a < n) : szR a n = -1 := by unfold szR; rw [if_neg (by omega)]
theorem szR_le {a n : Int} (h : n ≤ a) : szR a n = a - n := by unfold szR; rw [if_pos h]
theorem szR_add {a m n : Int} (h : ¬ szR a m < 0) (hm : 0 ≤ m) (hn : 0 ≤ n) : szR (szR a m) n = szR a (m + n) := by unfold szR at *; (repeat' split at *) <;> omega
theorem szR_neg {a m n : Int} (h : szR a m < 0) (h0 : 0 ≤ a) (hn : 0 ≤ n) : szR a (m + n) = -1 := by unfold szR at *; (repeat' split at *) <;> omega
end Go.Proofs.Ytlmcekfdlgkffaa
namespace Go.Proofs.Ytlmcekfdlgkffaa
open Go Go.RowKit
set_option linter.unusedVariables false
set_option linter.unusedSimpArgs false

/-- The encoding of a number. -/
def varL (n : Nat) : List UInt8 := if n < 128 then [UInt8.ofNat n] else UInt8.ofNat (n % 128 + 128) :: varL (n / 128)
termination_by n
decreasing_by omega
theorem varL_small {n : Nat} (h : n < 128) : varL n = [UInt8.ofNat n] := by rw [varL, if_pos h]
theorem varL_big {n : Nat} (h : ¬ n < 128) : varL n = UInt8.ofNat (n % 128 + 128) :: varL (n / 128) := by rw [varL, if_neg h]
theorem ub_small {k : Int} (h0 : 0 ≤ k) (h : k < 128) : [ub k] = varL k.toNat := by
  rw [varL_small (by omega)]
  unfold ub
  congr 2
  omega
theorem ub_big {k : Int} (h : 128 ≤ k) : ub (k % 128 + 128) :: varL (k / 128).toNat = varL k.toNat := by
  rw [varL_big (n := k.toNat) (by omega)]
  unfold ub
  have e1 : ((k % 128 + 128) % 256).toNat = k.toNat % 128 + 128 := by omega
  have e2 : (k / 128).toNat = k.toNat / 128 := by omega
  rw [e1, e2]
theorem varL_len (n : Nat) (h : n < 34359738368) : (varL n).length ≤ 5 := by
  have step : ∀ n, (varL n).length ≤ 1 + (if n < 128 then 0 else (varL (n / 128)).length) := by
    intro n
    by_cases h : n < 128
    · rw [varL_small h, if_pos h]; simp
    · rw [varL_big h, if_neg h]; simp; omega
  have h1 := step n
  have h2 := step (n / 128)
  have h3 := step (n / 128 / 128)
  have h4 := step (n / 128 / 128 / 128)
  have h5 := step (n / 128 / 128 / 128 / 128)
  have h6 : n / 128 / 128 / 128 / 128 < 128 := by omega
  rw [if_pos h6] at h5
  split at h1 <;> split at h2 <;> split at h3 <;> split at h4 <;> omega
/-- Numbers one after another. -/
def numsL (l : List Int) : List UInt8 := l.flatMap fun n => varL n.toNat
theorem numsL_take {l : List Int} {i : Nat} (h : i < l.length) : numsL (l.take (i + 1)) = numsL (l.take i) ++ varL (iat l i).toNat := by
  unfold numsL
  rw [List.take_add_one, gat_get (F := encI) h, List.flatMap_append]
  simp
theorem numsL_len : ∀ {l : List Int}, (∀ x, x ∈ l → x ≤ 34359738367) → (numsL l).length ≤ 5 * l.length
  | [], _ => by simp [numsL]
  | x :: r, h => by
    have h1 := numsL_len (l := r) fun y hy => h y (List.mem_cons_of_mem _ hy)
    have h2 := varL_len x.toNat (by have := h x List.mem_cons_self; omega)
    have e : numsL (x :: r) = varL x.toNat ++ numsL r := rfl
    rw [e, List.length_append, List.length_cons]
    omega
/-- A text: its length, then its bytes. -/
def textL (s : ByteArray) : List UInt8 := varL s.size ++ s.data.toList
def textsL (l : List ByteArray) : List UInt8 := l.flatMap textL
theorem textsL_take {l : List ByteArray} {i : Nat} (h : i < l.length) : textsL (l.take (i + 1)) = textsL (l.take i) ++ textL (gat encS l i) := by
  unfold textsL
  rw [List.take_add_one, gat_get (F := encS) h, List.flatMap_append]
  simp
theorem textL_len {s : ByteArray} (h : s.size ≤ 34359738367) : (textL s).length ≤ 5 + s.size := by
  have := varL_len s.size (by omega)
  unfold textL
  rw [List.length_append]
  simp; omega
theorem textsL_len {m : Nat} : ∀ {l : List ByteArray}, (∀ x, x ∈ l → x.size ≤ m) → m ≤ 34359738367 → (textsL l).length ≤ (5 + m) * l.length
  | [], _, _ => by simp [textsL]
  | x :: r, h, hm => by
    have h1 := textsL_len (l := r) (fun y hy => h y (List.mem_cons_of_mem _ hy)) hm
    have h0 := h x List.mem_cons_self
    have h2 := textL_len (s := x) (by omega)
    have e : textsL (x :: r) = textL x ++ textsL r := rfl
    rw [e, List.length_append, List.length_cons, Nat.mul_succ]
    omega
/-- An operation's encoding. -/
def opB (k a b c : Int) (nm tx dr : ByteArray) (xs : List UInt8) : List UInt8 :=
  if opOk k a b c nm tx dr xs.length = true then numsL [k, a, b, c] ++ textsL [nm, tx, dr, ⟨xs.toArray⟩] else []
theorem opOk_bounds {k a b c : Int} {nm tx dr : ByteArray} {n : Nat} (h : opOk k a b c nm tx dr n = true) : (1 ≤ k ∧ k ≤ 14) ∧ (0 ≤ a ∧ a ≤ 1000000) ∧ (0 ≤ b ∧ b ≤ 1000000) ∧ (0 ≤ c ∧ c ≤ 1000000) ∧ nm.size ≤ 12 ∧ tx.size ≤ 60 ∧ dr.size ≤ 60 ∧ n ≤ 2000 := by
  have hw : ∀ {s}, wordOk s = true → s.size ≤ 12 := fun {s} h => by
    unfold wordOk isPlain at h
    simp [within] at h
    omega
  have ht : ∀ {s : ByteArray}, noText s = true → s.size = 0 := fun {s} h => by
    have : s = { data := #[] } := by simpa [noText] using h
    subst this; rfl
  have hw1 := @hw nm
  have h1 := @ht nm
  have h2 := @ht tx
  have h3 := @ht dr
  unfold opOk at h
  (repeat' split at h) <;> simp [isCmd, isId, isLength, isSide, within] at h <;> grind
theorem opB_len (k a b c : Int) (nm tx dr : ByteArray) (xs : List UInt8) : (opB k a b c nm tx dr xs).length ≤ 9000 := by
  unfold opB
  split
  · rename_i h
    have hb := opOk_bounds h
    have h1 := numsL_len (l := [k, a, b, c]) (by intro x hx; simp at hx; omega)
    have h2 := textsL_len (m := 2000) (l := [nm, tx, dr, ⟨xs.toArray⟩]) (by
      intro x hx
      simp at hx
      have hz : (ByteArray.mk xs.toArray).size = xs.length := by simp [ByteArray.size]
      rcases hx with rfl | rfl | rfl | rfl <;> omega) (by omega)
    simp only [List.length_append, List.length_cons, List.length_nil] at *
    omega
  · simp
end Go.Proofs.Ytlmcekfdlgkffaa
namespace Go.Proofs.Ytlmcekfdlgkffaa
open Go Go.RowKit
set_option linter.unusedVariables false
set_option linter.unusedSimpArgs false

/-- The first place whose element has a property; -1 where there is none. -/
def findI {α : Type} (p : α → Bool) (xs : List α) : Int := match xs.findIdx? p with | some i => (i : Int) | none => -1
theorem findI_some {α : Type} {F : Enc α} {p : α → Bool} {xs : List α} {i : Nat} (hi : i < xs.length) (h : ∀ j, j < i → p (gat F xs j) = false) (hp : p (gat F xs i) = true) : findI p xs = i := by
  have e : ∀ j (hj : j < xs.length), gat F xs j = xs[j] := fun j hj => by
    have := gat_get (F := F) hj
    rw [List.getElem?_eq_getElem hj] at this
    exact (Option.some.inj this).symm
  have : xs.findIdx? p = some i := by
    rw [List.findIdx?_eq_some_iff_getElem]
    refine ⟨hi, by rw [← e i hi]; exact hp, fun j hj => ?_⟩
    rw [← e j (by omega), h j hj]
    simp
  simp [findI, this]
theorem findI_none {α : Type} {F : Enc α} {p : α → Bool} {xs : List α} (h : ∀ j, j < xs.length → p (gat F xs j) = false) : findI p xs = -1 := by
  have : xs.findIdx? p = none := by
    rw [List.findIdx?_eq_none_iff]
    intro x hx
    obtain ⟨i, hi, rfl⟩ := List.mem_iff_getElem.1 hx
    have e := gat_get (F := F) hi
    rw [List.getElem?_eq_getElem hi] at e
    rw [Option.some.inj e]
    exact h i hi
  simp [findI, this]
theorem findI_cases {α : Type} {p : α → Bool} {xs : List α} : (findI p xs = -1 ∧ ∀ x, x ∈ xs → p x = false) ∨ ∃ i, ∃ h : i < xs.length, findI p xs = (i : Int) ∧ p xs[i] = true ∧ ∀ j, (hj : j < i) → p (xs[j]'(by omega)) = false := by
  cases e : xs.findIdx? p with
  | none => exact Or.inl ⟨by simp [findI, e], List.findIdx?_eq_none_iff.1 e⟩
  | some i =>
    obtain ⟨h1, h2, h3⟩ := List.findIdx?_eq_some_iff_getElem.1 e
    exact Or.inr ⟨i, h1, by simp [findI, e], h2, fun j hj => by simpa using h3 j hj⟩
def attrOk (fg bg : Int) : Bool := within fg 0 8 && within bg 0 8
def attrNum (a : AttrD) : Int :=
  if attrOk a.Fg a.Bg = true then 72 * a.Bg + 8 * a.Fg + (if a.Bold = true then 1 else 0) + (if a.Under = true then 2 else 0) + (if a.Turn = true then 4 else 0) else -1
def cellOk (c : CellD) : Bool := shows c.R && attrOk c.A.Fg c.A.Bg
theorem cellOk_bounds {c : CellD} (h : cellOk c = true) : 0 ≤ c.R ∧ c.R ≤ 65535 ∧ attrOk c.A.Fg c.A.Bg = true ∧ 0 ≤ attrNum c.A ∧ attrNum c.A ≤ 647 := by
  simp only [cellOk, Bool.and_eq_true] at h
  obtain ⟨h1, h2⟩ := h
  have h3 := h2
  simp [shows, within, attrOk] at h1 h2
  refine ⟨by omega, by omega, h3, ?_, ?_⟩ <;> unfold attrNum <;> rw [if_pos h3] <;> (repeat' split) <;> omega
/-- One run: how many, then the cell. -/
def runB (n : Nat) (c : CellD) : List UInt8 := varL n ++ varL c.R.toNat ++ varL (attrNum c.A).toNat
def cellsGo : Nat → List CellD → List UInt8
  | _, [] => []
  | n, c :: l => if l.head? = some c then cellsGo (n + 1) l else runB (n + 1) c ++ cellsGo 0 l
def cellsB (l : List CellD) : List UInt8 := cellsGo 0 l
def cellsOk (l : List CellD) : Bool := l.all cellOk
def cellsFine (l : List CellD) : Bool := decide (l.length ≤ 4000) && cellsOk l
def cellsOut (l : List CellD) : List UInt8 := if cellsFine l = true then cellsB l else []
theorem gat_drop {l : List CellD} {i : Nat} (h : i < l.length) : l.drop i = gat encCell l i :: l.drop (i + 1) := by
  rw [List.drop_eq_getElem_cons h]; congr 1; have := gat_get (F := encCell) h; rw [List.getElem?_eq_getElem h] at this; exact Option.some.inj this
theorem cellsGo_step {n i : Nat} {l : List CellD} (h : i < l.length) : cellsGo n (l.drop i) = if i + 1 < l.length ∧ gat encCell l (i + 1) = gat encCell l i then cellsGo (n + 1) (l.drop (i + 1)) else runB (n + 1) (gat encCell l i) ++ cellsGo 0 (l.drop (i + 1)) := by
  rw [gat_drop h, cellsGo]
  by_cases h1 : i + 1 < l.length
  · rw [gat_drop h1]
    simp [h1]
  · rw [List.drop_eq_nil_of_le (by omega)]
    simp [h1]
theorem cellsGo_run : ∀ (m n i : Nat) {l : List CellD}, i + m < l.length → (∀ j, j ≤ m → gat encCell l (i + j) = gat encCell l i) → (i + m + 1 < l.length → gat encCell l (i + m + 1) ≠ gat encCell l i) →
    cellsGo n (l.drop i) = runB (n + m + 1) (gat encCell l i) ++ cellsGo 0 (l.drop (i + m + 1))
  | 0, n, i, l, h, _, h2 => by
    simp only [Nat.add_zero] at h h2 ⊢
    rw [cellsGo_step h, if_neg (fun hh => h2 hh.1 hh.2)]
  | m + 1, n, i, l, h, h1, h2 => by
    have e1 := h1 1 (by omega)
    rw [cellsGo_step (by omega), if_pos ⟨by omega, e1⟩, cellsGo_run m (n + 1) (i + 1) (by omega) (fun j hj => by
      have := h1 (1 + j) (by omega)
      rw [Nat.add_assoc, this, e1]) (by
      rw [e1, show i + 1 + m + 1 = i + (m + 1) + 1 by omega]; exact h2)]
    rw [e1, show i + 1 + m + 1 = i + (m + 1) + 1 by omega, show n + 1 + m + 1 = n + (m + 1) + 1 by omega]
theorem runB_len {n : Nat} {c : CellD} (h : n ≤ 4000) (hc : cellOk c = true) : (runB n c).length ≤ 15 := by
  have hb := cellOk_bounds hc
  have h1 := varL_len n (by omega)
  have h2 := varL_len c.R.toNat (by omega)
  have h3 := varL_len (attrNum c.A).toNat (by omega)
  simp only [runB, List.length_append]
  omega
theorem cellsGo_len : ∀ {l : List CellD} {n : Nat}, n + l.length ≤ 4000 → cellsOk l = true → (cellsGo n l).length ≤ 15 * l.length
  | [], n, _, _ => by simp [cellsGo]
  | c :: l, n, h, hc => by
    simp only [List.length_cons] at h
    simp only [cellsOk, List.all_cons, Bool.and_eq_true] at hc
    rw [cellsGo]
    split
    · have := cellsGo_len (l := l) (n := n + 1) (by omega) hc.2
      simp only [List.length_cons]; omega
    · have h1 := cellsGo_len (l := l) (n := 0) (by omega) hc.2
      have h2 := runB_len (n := n + 1) (by omega) hc.1
      simp only [List.length_append, List.length_cons]; omega
theorem cellsB_len {l : List CellD} (h : l.length ≤ 4000) (hc : cellsOk l = true) : (cellsB l).length ≤ 15 * l.length := cellsGo_len (by omega) hc
theorem cellsOk_gat {l : List CellD} {i : Nat} (h : cellsOk l = true) (hi : i < l.length) : cellOk (gat encCell l i) = true := by
  unfold cellsOk at h
  rw [List.all_eq_true] at h
  exact h _ (gat_mem hi)
theorem cellsOk_not {l : List CellD} {i : Nat} (hi : i < l.length) (h : cellOk (gat encCell l i) = false) : cellsOk l = false := by
  cases e : cellsOk l with
  | false => rfl
  | true => rw [cellsOk_gat e hi] at h; cases h
theorem cellsOk_all {l : List CellD} (h : ∀ i, i < l.length → cellOk (gat encCell l i) = true) : cellsOk l = true := by
  unfold cellsOk
  rw [List.all_eq_true]
  intro x hx
  obtain ⟨i, hi, rfl⟩ := List.mem_iff_getElem.1 hx
  have e := gat_get (F := encCell) hi
  rw [List.getElem?_eq_getElem hi] at e
  rw [Option.some.inj e]
  exact h i hi
theorem cellsOk_find {l : List CellD} : (!decide (0 ≤ findI (fun c => !cellOk c) l)) = cellsOk l := by
  rcases findI_cases (p := fun c => !cellOk c) (xs := l) with ⟨h1, h2⟩ | ⟨i, hi, h1, h2, _⟩
  · rw [h1]
    have : cellsOk l = true := by
      unfold cellsOk
      rw [List.all_eq_true]
      intro x hx
      simpa using h2 x hx
    rw [this]; decide
  · rw [h1]
    have : cellsOk l = false := by
      rw [← Bool.not_eq_true]
      intro h
      unfold cellsOk at h
      rw [List.all_eq_true] at h
      have := h _ (List.getElem_mem hi)
      simp [this] at h2
    rw [this]
    simp
theorem cellsOut_len (l : List CellD) : (cellsOut l).length ≤ 60000 := by
  unfold cellsOut
  split
  · rename_i h
    simp [cellsFine] at h
    have := cellsB_len h.1 h.2
    omega
  · simp
theorem or8 {q m r k : Nat} (hq : q = 8 * m + r) (hr : r < 2 ^ k) (hk : k < 3) : q ||| 2 ^ k = q + 2 ^ k := by
  have hk2 : 2 ^ k ≤ 4 := by
    rcases k with _ | _ | _ | k
    · decide
    · decide
    · decide
    · omega
  have e1 : 8 * m + r = 8 * m ||| r := Nat.two_pow_add_eq_or_of_lt (i := 3) (by omega) m
  have e2 : r ||| 2 ^ k = r + 2 ^ k := by
    rcases k with _ | _ | _ | k
    · have : r = 0 := by omega
      subst this; decide
    · have : r = 0 ∨ r = 1 := by omega
      rcases this with rfl | rfl <;> decide
    · have : r = 0 ∨ r = 1 ∨ r = 2 ∨ r = 3 := by omega
      rcases this with rfl | rfl | rfl | rfl <;> decide
    · omega
  have e3 : 8 * m + (r + 2 ^ k) = 8 * m ||| (r + 2 ^ k) := Nat.two_pow_add_eq_or_of_lt (i := 3) (by omega) m
  rw [hq, e1, Nat.or_assoc, e2, ← e3, ← e1]
  omega
/-- What the first bits of an attribute add. -/
def attrBits (a : AttrD) (i : Nat) : Int := (if 0 < i ∧ a.Bold = true then 1 else 0) + (if 1 < i ∧ a.Under = true then 2 else 0) + (if 2 < i ∧ a.Turn = true then 4 else 0)
theorem attrNum_bits {a : AttrD} (h : attrOk a.Fg a.Bg = true) : attrNum a = 72 * a.Bg + 8 * a.Fg + attrBits a 3 := by
  unfold attrNum attrBits
  rw [if_pos h]
  simp; omega
theorem attrBits_set {fg bg q : Int} {bo un tu : Bool} {i : Nat} (hfg : 0 ≤ fg) (hbg : 0 ≤ bg) (h : q = 72 * bg + 8 * fg + attrBits ⟨fg, bg, bo, un, tu⟩ i) (hi : i < 3) (hb : gat encT [bo, un, tu] i = true) :
    ((q.toNat ||| (1 * 2 ^ i : Int).toNat : Nat) : Int) = 72 * bg + 8 * fg + attrBits ⟨fg, bg, bo, un, tu⟩ (i + 1) := by
  have e : ((1 * 2 ^ i : Int).toNat : Nat) = 2 ^ i := by rcases i with _ | _ | _ | i <;> first | rfl | omega
  have hr : ∃ r : Nat, attrBits ⟨fg, bg, bo, un, tu⟩ i = (r : Int) ∧ r < 2 ^ i := by
    rcases i with _ | _ | _ | i
    · exact ⟨0, by simp [attrBits], by decide⟩
    · cases bo
      · exact ⟨0, by simp [attrBits], by decide⟩
      · exact ⟨1, by simp [attrBits], by decide⟩
    · cases bo <;> cases un
      · exact ⟨0, by simp [attrBits], by decide⟩
      · exact ⟨2, by simp [attrBits], by decide⟩
      · exact ⟨1, by simp [attrBits], by decide⟩
      · exact ⟨3, by simp [attrBits], by decide⟩
    · omega
  obtain ⟨r, hr1, hr2⟩ := hr
  rw [e, or8 (m := (9 * bg + fg).toNat) (r := r) (by omega) hr2 hi]
  have hn : attrBits ⟨fg, bg, bo, un, tu⟩ (i + 1) = attrBits ⟨fg, bg, bo, un, tu⟩ i + ((2 ^ i : Nat) : Int) := by
    rcases i with _ | _ | _ | i
    · simp [gat] at hb; simp [attrBits, hb]
    · simp [gat] at hb; simp [attrBits, hb]
    · simp [gat] at hb; simp [attrBits, hb]
    · omega
  rw [hn]
  omega
theorem attrBits_skip {fg bg : Int} {bo un tu : Bool} {i : Nat} (hi : i < 3) (hb : gat encT [bo, un, tu] i = false) : attrBits ⟨fg, bg, bo, un, tu⟩ (i + 1) = attrBits ⟨fg, bg, bo, un, tu⟩ i := by
  rcases i with _ | _ | _ | i
  · simp [gat] at hb; simp [attrBits, hb]
  · simp [gat] at hb; simp [attrBits, hb]
  · simp [gat] at hb; simp [attrBits, hb]
  · omega
end Go.Proofs.Ytlmcekfdlgkffaa
