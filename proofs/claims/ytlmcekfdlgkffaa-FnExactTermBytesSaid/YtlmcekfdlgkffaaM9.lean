/-
  Plain laws: what grids do: roll, shift, fill, paste, cell by cell.
-/
import Derived.Test.YtlmcekfdlgkffaaM8
namespace Go.Proofs.Ytlmcekfdlgkffaa
open Go Go.RowKit
set_option linter.unusedVariables false
set_option linter.unusedSimpArgs false
theorem gat_lt {α : Type} {F : Enc α} {xs : List α} {k : Nat} (h : k < xs.length) : gat F xs k = xs[k] := by
  simp [gat, List.getD, h]
theorem gat_map_range {α : Type} {F : Enc α} {n k : Nat} {f : Nat → α} (h : k < n) : gat F ((List.range n).map f) k = f k := by
  rw [gat_lt (by simpa using h)]; simp
theorem ext_gat {α : Type} {F : Enc α} {xs : List α} {n : Nat} {f : Nat → α} (hl : xs.length = n) (h : ∀ k, k < n → gat F xs k = f k) : xs = (List.range n).map f := by
  apply List.ext_getElem
  · simpa using hl
  · intro k h1 h2
    have h3 := h k (by omega)
    rw [gat_lt h1] at h3
    rw [h3]; simp
theorem ext_gat2 {α : Type} {F : Enc α} {xs ys : List α} (hl : xs.length = ys.length) (h : ∀ k, k < xs.length → gat F xs k = gat F ys k) : xs = ys := by
  apply List.ext_getElem hl
  intro k h1 h2
  have h3 := h k h1
  rwa [gat_lt h1, gat_lt h2] at h3
theorem gat_splice {α : Type} {F : Enc α} {xs ys : List α} {lo m k : Nat} (hy : m ≤ ys.length) (hx : lo + m ≤ xs.length) (hk : k < xs.length) : gat F (xs.take lo ++ ys.take m ++ xs.drop (lo + m)) k = if lo ≤ k ∧ k < lo + m then gat F ys (k - lo) else gat F xs k := by
  have h1 : (xs.take lo).length = lo := by rw [List.length_take]; omega
  have h2 : (ys.take m).length = m := by rw [List.length_take]; omega
  have h3 : (xs.take lo ++ ys.take m ++ xs.drop (lo + m)).length = xs.length := by simp only [List.length_append, h1, h2, List.length_drop]; omega
  rw [gat_lt (by omega)]
  split
  · rename_i h
    rw [gat_lt (show k - lo < ys.length by omega), List.getElem_append_left (by simp only [List.length_append, h1, h2]; omega), List.getElem_append_right (by omega), List.getElem_take]
    congr 1; omega
  · rename_i h
    rw [gat_lt hk]
    rcases Nat.lt_or_ge k lo with h4 | h4
    · rw [List.getElem_append_left (by simp only [List.length_append, h1, h2]; omega), List.getElem_append_left (by omega), List.getElem_take]
    · rw [List.getElem_append_right (by simp only [List.length_append, h1, h2]; omega), List.getElem_drop]
      congr 1
      simp only [List.length_append, h1, h2]; omega
theorem row_iff {w y k : Nat} (hw : 0 < w) : (y * w ≤ k ∧ k < y * w + w) ↔ k / w = y := by
  have h := Nat.div_add_mod k w
  have h2 := Nat.mod_lt k hw
  constructor
  · rintro ⟨h3, h4⟩
    have e : y * w + w = (y + 1) * w := by rw [Nat.add_mul, Nat.one_mul]
    rw [e] at h4
    have h5 := (Nat.div_lt_iff_lt_mul hw).2 h4
    have h6 := (Nat.le_div_iff_mul_le hw).2 h3
    omega
  · rintro rfl
    rw [Nat.mul_comm] at h
    omega
def gmap (g : GridD) (f : Nat → CellD) : GridD := { g with Cells := (List.range g.Cells.length).map f }
abbrev cat (l : List CellD) (k : Nat) : CellD := gat encCell l k
/-- Rows roll. -/
def rollF (g : GridD) (top bot n : Int) (k : Nat) : CellD :=
  if top ≤ ((k / g.W.toNat : Nat) : Int) ∧ ((k / g.W.toNat : Nat) : Int) ≤ bot then
    (if top ≤ ((k / g.W.toNat : Nat) : Int) + n ∧ ((k / g.W.toNat : Nat) : Int) + n ≤ bot then cat g.Cells ((((k / g.W.toNat : Nat) : Int) + n).toNat * g.W.toNat + k % g.W.toNat) else blankC)
  else cat g.Cells k
def gRoll (g : GridD) (top bot n : Int) : GridD := gmap g (rollF g top bot n)
/-- Cells of a row shift. -/
def shiftF (g : GridD) (x y n : Int) (k : Nat) : CellD :=
  if ((k / g.W.toNat : Nat) : Int) = y ∧ x ≤ ((k % g.W.toNat : Nat) : Int) then
    (if x ≤ ((k % g.W.toNat : Nat) : Int) - n ∧ ((k % g.W.toNat : Nat) : Int) - n < g.W then cat g.Cells ((k / g.W.toNat) * g.W.toNat + (((k % g.W.toNat : Nat) : Int) - n).toNat) else blankC)
  else cat g.Cells k
def gShift (g : GridD) (x y n : Int) : GridD := gmap g (shiftF g x y n)
def fillFn (g : GridD) (x y w h : Int) (c : CellD) (k : Nat) : CellD :=
  if (x ≤ ((k % g.W.toNat : Nat) : Int) ∧ ((k % g.W.toNat : Nat) : Int) < x + w) ∧ y ≤ ((k / g.W.toNat : Nat) : Int) ∧ ((k / g.W.toNat : Nat) : Int) < y + h then c else cat g.Cells k
def gFill (g : GridD) (x y w h : Int) (c : CellD) : GridD := gmap g (fillFn g x y w h c)
def pasteF (g h : GridD) (x y : Int) (k : Nat) : CellD :=
  if (0 ≤ ((k % g.W.toNat : Nat) : Int) - x ∧ ((k % g.W.toNat : Nat) : Int) - x < h.W) ∧ 0 ≤ ((k / g.W.toNat : Nat) : Int) - y ∧ ((k / g.W.toNat : Nat) : Int) - y < h.H then
    cat h.Cells ((((k / g.W.toNat : Nat) : Int) - y).toNat * h.W.toNat + (((k % g.W.toNat : Nat) : Int) - x).toNat) else cat g.Cells k
def gPaste (g h : GridD) (x y : Int) : GridD := gmap g (pasteF g h x y)
theorem gmap_len (g : GridD) (f : Nat → CellD) : (gmap g f).Cells.length = g.Cells.length := by simp [gmap]
theorem rep_first {x : List CellD} {n k : Nat} (h : 1 ≤ n) (hk : k = 1) (hx : x.length = 1) : (List.replicate n encCell.dflt).take 0 ++ x.take (min k n) ++ (List.replicate n encCell.dflt).drop (0 + min k n) = List.replicate 1 (gat encCell x 0) ++ List.replicate (n - 1) encCell.dflt := by
  subst hk
  obtain ⟨c, rfl⟩ := List.length_eq_one_iff.1 hx
  rw [show min 1 n = 1 by omega]
  simp [gat]
theorem rep_next {x d : CellD} {n m : Nat} (h1 : 1 ≤ m) (h2 : m ≤ n) : (List.replicate m x ++ List.replicate (n - m) d).take m ++ ((List.replicate m x ++ List.replicate (n - m) d).take m).take (min (m - 0) (n - m)) ++ (List.replicate m x ++ List.replicate (n - m) d).drop (m + min (m - 0) (n - m)) = List.replicate (m + min m (n - m)) x ++ List.replicate (n - (m + min m (n - m))) d := by
  have e1 : (List.replicate m x ++ List.replicate (n - m) d).take m = List.replicate m x := by
    rw [List.take_append_of_le_length (by simp), List.take_of_length_le (by simp)]
  rw [e1, List.take_replicate, Nat.sub_zero, List.drop_append, List.length_replicate, List.drop_of_length_le (by simp), List.nil_append, List.drop_replicate]
  rw [show min (min m (n - m)) m = min m (n - m) by omega, List.replicate_append_replicate]
  congr 2
  omega
end Go.Proofs.Ytlmcekfdlgkffaa
