/-
  Plain laws: a leaf cut out of a tree.
-/
import Derived.Test.YtghcicggamkjgaaN4
namespace Go.Proofs.Ytghcicggamkjgaa
open Go Go.RowKit
set_option linter.unusedVariables false
set_option linter.unusedSimpArgs false

/-- The places before k that have a property, as numbers. -/
def overL (p : Nat → Bool) (k : Nat) : List Int := ((List.range k).filter p).map fun i : Nat => (i : Int)
theorem overL_succ {p : Nat → Bool} {k : Nat} : overL p (k + 1) = overL p k ++ (if p k = true then [(k : Int)] else []) := by
  unfold overL
  rw [List.range_succ, List.filter_append, List.map_append]
  congr 1
  cases h : p k <;> simp [h]
theorem overL_len (p : Nat → Bool) (k : Nat) : (overL p k).length ≤ k := by
  unfold overL
  rw [List.length_map]
  have := List.length_filter_le p (List.range k)
  simpa using this
theorem overL_last {p : Nat → Bool} : ∀ {k i : Nat}, lastI p k = i → 0 < (overL p k).length ∧ iat (overL p k) ((overL p k).length - 1) = i
  | 0, i, h => by simp [lastI] at h
  | k + 1, i, h => by
    rw [lastI] at h
    cases hp : p k with
    | true =>
      rw [hp] at h
      simp only [if_true] at h
      rw [overL_succ, hp]
      simp only [if_true, List.length_append, List.length_cons, List.length_nil]
      refine ⟨by omega, ?_⟩
      rw [iat_getElem (by simp)]
      simp [h]
    | false =>
      rw [hp] at h
      simp only [Bool.false_eq_true, if_false] at h
      obtain ⟨h1, h2⟩ := overL_last h
      rw [overL_succ, hp]
      simp only [Bool.false_eq_true, if_false, List.append_nil]
      exact ⟨h1, h2⟩
/-- The nodes before i but those at two places. -/
def cutI (t : List NodeD) (u k : Int) (i : Nat) : List NodeD := ((List.range i).filter fun j : Nat => decide ((j : Int) ≠ u) && decide ((j : Int) ≠ k)).map (gat encNode t)
theorem cutI_succ {t : List NodeD} {u k : Int} {i : Nat} : cutI t u k (i + 1) = cutI t u k i ++ (if (i : Int) ≠ u ∧ (i : Int) ≠ k then [gat encNode t i] else []) := by
  unfold cutI
  rw [List.range_succ, List.filter_append, List.map_append]
  congr 1
  by_cases h1 : (i : Int) = u <;> by_cases h2 : (i : Int) = k <;> simp [h1, h2]
theorem cutI_len (t : List NodeD) (u k : Int) (i : Nat) : (cutI t u k i).length ≤ i := by
  unfold cutI
  rw [List.length_map]
  have := List.length_filter_le (fun j : Nat => decide ((j : Int) ≠ u) && decide ((j : Int) ≠ k)) (List.range i)
  simpa using this
theorem take_gat {t : List NodeD} {i : Nat} (h : i < t.length) : t.take (i + 1) = t.take i ++ [gat encNode t i] := by
  rw [List.take_add_one, gat_get (F := encNode) h]; rfl
theorem drop_gat {t : List NodeD} {a m : Nat} (h : a + m < t.length) : (t.drop a).take (m + 1) = (t.drop a).take m ++ [gat encNode t (a + m)] := by
  rw [List.take_add_one, List.getElem?_drop, gat_get (F := encNode) h]; rfl
theorem cutI_parts {t : List NodeD} {u k : Nat} (huk : u < k) (hk : k < t.length) : ∀ {i : Nat}, i ≤ t.length → cutI t u k i = t.take (min i u) ++ (t.drop (u + 1)).take (min i k - (u + 1)) ++ (t.drop (k + 1)).take (i - (k + 1))
  | 0, _ => by simp [cutI]
  | i + 1, hi => by
    have ih := cutI_parts huk hk (i := i) (by omega)
    rw [cutI_succ, ih]
    rcases Nat.lt_trichotomy i u with h | h | h
    · rw [if_pos ⟨by omega, by omega⟩, Nat.min_eq_left (by omega : i ≤ u), Nat.min_eq_left (by omega : i + 1 ≤ u), take_gat (by omega)]
      have e1 : min i k - (u + 1) = 0 := by omega
      have e2 : min (i + 1) k - (u + 1) = 0 := by omega
      have e3 : i - (k + 1) = 0 := by omega
      have e4 : i + 1 - (k + 1) = 0 := by omega
      simp [e1, e2, e3, e4]
    · subst h
      rw [if_neg (by omega)]
      have e1 : min i k - (i + 1) = 0 := by omega
      have e2 : min (i + 1) k - (i + 1) = 0 := by omega
      have e3 : i - (k + 1) = 0 := by omega
      have e4 : i + 1 - (k + 1) = 0 := by omega
      have e5 : min (i + 1) i = i := by omega
      simp [e1, e2, e3, e4, e5]
    · have e5 : min i u = u := by omega
      have e6 : min (i + 1) u = u := by omega
      rcases Nat.lt_trichotomy i k with h2 | h2 | h2
      · rw [if_pos ⟨by omega, by omega⟩, e5, e6]
        have e1 : min i k - (u + 1) = i - (u + 1) := by omega
        have e2 : min (i + 1) k - (u + 1) = i - (u + 1) + 1 := by omega
        have e3 : i - (k + 1) = 0 := by omega
        have e4 : i + 1 - (k + 1) = 0 := by omega
        rw [e1, e2, e3, e4, drop_gat (by omega), show u + 1 + (i - (u + 1)) = i by omega]
        simp
      · subst h2
        rw [if_neg (by omega), e5, e6]
        have e1 : min i i - (u + 1) = i - (u + 1) := by omega
        have e2 : min (i + 1) i - (u + 1) = i - (u + 1) := by omega
        have e3 : i - (i + 1) = 0 := by omega
        have e4 : i + 1 - (i + 1) = 0 := by omega
        rw [e1, e2, e3, e4]
        simp
      · rw [if_pos ⟨by omega, by omega⟩, e5, e6]
        have e1 : min i k - (u + 1) = k - (u + 1) := by omega
        have e2 : min (i + 1) k - (u + 1) = k - (u + 1) := by omega
        have e3 : i + 1 - (k + 1) = i - (k + 1) + 1 := by omega
        rw [e1, e2, e3, drop_gat (by omega), show k + 1 + (i - (k + 1)) = i by omega]
        simp [List.append_assoc]
def cutOk (t : List NodeD) (p : Int) : Bool := treeOk t && decide (1 ≤ atL t p)
def upL (t : List NodeD) (p : Int) : Nat := (lastI (isOver t (atL t p).toNat) (atL t p).toNat).toNat
def cutL (t : List NodeD) (p : Int) : List NodeD :=
  if cutOk t p = true then t.take (upL t p) ++ (t.drop (upL t p + 1)).take ((atL t p).toNat - (upL t p + 1)) ++ t.drop ((atL t p).toNat + 1) else []
theorem cutL_len (t : List NodeD) (p : Int) : (cutL t p).length ≤ 93 := by
  unfold cutL
  split
  · rename_i h
    simp only [cutOk, Bool.and_eq_true] at h
    have := treeOk_len h.1
    simp only [List.length_append, List.length_take, List.length_drop]; omega
  · simp
theorem cut_up {t : List NodeD} {p : Int} (h : cutOk t p = true) : ∃ k u : Nat, atL t p = (k : Int) ∧ lastI (isOver t k) k = (u : Int) ∧ lastI (isUp t k) k = (u : Int) ∧ u < k ∧ k < t.length ∧ upL t p = u := by
  simp only [cutOk, Bool.and_eq_true, decide_eq_true_eq] at h
  obtain ⟨_, ⟨T, hv⟩, _⟩ := treeOk_iff.1 h.1
  have h1 := atL_lt t p
  obtain ⟨k, hk⟩ : ∃ k : Nat, atL t p = k := ⟨(atL t p).toNat, by omega⟩
  obtain ⟨u, hu, huk⟩ := over_some hv (at_ := k) (by omega) (by omega)
  refine ⟨k, u, hk, hu, (over_up hv (by omega)).symm.trans hu, huk, by omega, ?_⟩
  unfold upL
  rw [hk, Int.toNat_natCast, hu, Int.toNat_natCast]
theorem cut_up' {t : List NodeD} {p : Int} (h : cutOk t p = true) : ∃ u : Nat, 1 ≤ atL t p ∧ lastI (isOver t (atL t p).toNat) (atL t p).toNat = (u : Int) ∧ lastI (isUp t (atL t p).toNat) (atL t p).toNat = (u : Int) ∧ u < (atL t p).toNat ∧ (atL t p).toNat < t.length ∧ upL t p = u := by
  obtain ⟨k, u, hk, h1, h2, h3, h4, h5⟩ := cut_up h
  have e : (atL t p).toNat = k := by omega
  rw [e]
  exact ⟨u, by omega, h1, h2, h3, h4, h5⟩
theorem flat_take {α : Type} {xss : List (List α)} {i : Nat} (h : i < xss.length) : (xss.take (i + 1)).flatten = (xss.take i).flatten ++ xss.getD i [] := by
  rw [List.take_add_one, List.getElem?_eq_getElem h, List.flatten_append, List.getD_eq_getElem?_getD, List.getElem?_eq_getElem h]
  simp
theorem flat_le {α : Type} {xss : List (List α)} {i : Nat} : ((xss.take i).flatten).length ≤ xss.flatten.length := by
  conv => rhs; rw [← List.take_append_drop i xss]
  rw [List.flatten_append, List.length_append]
  omega
end Go.Proofs.Ytghcicggamkjgaa
