/-
  Plain laws: a grid pasted over another, cell after cell; rows kept; sizes.
-/
import Derived.Test.YtlmcekfdlgkffaaM9
namespace Go.Proofs.Ytlmcekfdlgkffaa
open Go Go.RowKit
set_option linter.unusedVariables false
set_option linter.unusedSimpArgs false
theorem dm_uniq {a b r c w : Nat} (hb : b < w) (hc : c < w) (h : a * w + b = r * w + c) : a = r ∧ b = c := by
  have key : ∀ p q : Nat, q < w → (p * w + q) / w = p := fun p q hq => by
    rw [Nat.mul_comm, Nat.mul_add_div (by omega), Nat.div_eq_of_lt hq, Nat.add_zero]
  have h1 := key a b hb
  rw [h, key r c hc] at h1
  subst h1
  exact ⟨rfl, by omega⟩
theorem dm_at {k w a b : Nat} (hb : b < w) : (k / w = a ∧ k % w = b) ↔ k = a * w + b := by
  have h := Nat.div_add_mod k w
  rw [Nat.mul_comm] at h
  constructor
  · rintro ⟨h1, h2⟩
    rw [← h1, ← h2]; exact h.symm
  · intro h1
    exact dm_uniq (Nat.mod_lt _ (by omega)) hb (h.trans h1)
def pasteIn (g h : GridD) (x y : Int) (k : Nat) : Prop :=
  (0 ≤ ((k % g.W.toNat : Nat) : Int) - x ∧ ((k % g.W.toNat : Nat) : Int) - x < h.W) ∧ 0 ≤ ((k / g.W.toNat : Nat) : Int) - y ∧ ((k / g.W.toNat : Nat) : Int) - y < h.H
instance (g h : GridD) (x y : Int) (k : Nat) : Decidable (pasteIn g h x y k) := by unfold pasteIn; infer_instance
def psrc (g h : GridD) (x y : Int) (k : Nat) : Nat := (((k / g.W.toNat : Nat) : Int) - y).toNat * h.W.toNat + (((k % g.W.toNat : Nat) : Int) - x).toNat
def pasteTo (g h : GridD) (x y : Int) (i k : Nat) : CellD := if pasteIn g h x y k ∧ psrc g h x y k < i then cat h.Cells (psrc g h x y k) else cat g.Cells k
theorem pasteTo_zero {g h : GridD} {x y : Int} {k : Nat} : pasteTo g h x y 0 k = cat g.Cells k := by
  unfold pasteTo
  rw [if_neg (by omega)]
theorem psrc_lt {g h : GridD} {x y : Int} {k : Nat} (hi : pasteIn g h x y k) : psrc g h x y k < h.H.toNat * h.W.toNat := by
  unfold pasteIn at hi
  unfold psrc
  have h1 : (((k / g.W.toNat : Nat) : Int) - y).toNat + 1 ≤ h.H.toNat := by omega
  have h2 := Nat.mul_le_mul_right h.W.toNat h1
  rw [Nat.add_mul, Nat.one_mul] at h2
  omega
theorem pasteTo_all {g h : GridD} {x y : Int} {i k : Nat} (hi : h.H.toNat * h.W.toNat ≤ i) : pasteTo g h x y i k = pasteF g h x y k := by
  unfold pasteTo pasteF
  by_cases hp : pasteIn g h x y k
  · rw [if_pos ⟨hp, Nat.lt_of_lt_of_le (psrc_lt hp) hi⟩]
    unfold pasteIn at hp
    rw [if_pos hp]
    rfl
  · rw [if_neg (fun q => hp q.1)]
    unfold pasteIn at hp
    rw [if_neg hp]
theorem psrc_iff {g h : GridD} {x y : Int} {k r c : Nat} (hc : (c : Int) < h.W) : (pasteIn g h x y k ∧ psrc g h x y k = r * h.W.toNat + c) ↔ ((r : Int) < h.H ∧ ((k / g.W.toNat : Nat) : Int) = y + r ∧ ((k % g.W.toNat : Nat) : Int) = x + c) := by
  unfold pasteIn psrc
  constructor
  · rintro ⟨h1, h2⟩
    have h3 := dm_uniq (by omega) (by omega) h2
    omega
  · rintro ⟨h1, h2, h3⟩
    refine ⟨by omega, ?_⟩
    rw [show (((k / g.W.toNat : Nat) : Int) - y).toNat = r by omega, show (((k % g.W.toNat : Nat) : Int) - x).toNat = c by omega]
theorem pasteTo_step {g h : GridD} {x y : Int} {i k : Nat} : pasteTo g h x y (i + 1) k = if pasteIn g h x y k ∧ psrc g h x y k = i then cat h.Cells i else pasteTo g h x y i k := by
  unfold pasteTo
  by_cases hp : pasteIn g h x y k
  · by_cases he : psrc g h x y k = i
    · rw [if_pos ⟨hp, by omega⟩, if_pos ⟨hp, he⟩, he]
    · have h0 : ¬ (pasteIn g h x y k ∧ psrc g h x y k = i) := fun q => he q.2
      by_cases hl : psrc g h x y k < i
      · rw [if_pos (show pasteIn g h x y k ∧ psrc g h x y k < i + 1 from ⟨hp, by omega⟩), if_neg h0, if_pos ⟨hp, hl⟩]
      · rw [if_neg (show ¬ (pasteIn g h x y k ∧ psrc g h x y k < i + 1) from fun q => by omega), if_neg h0, if_neg (fun q => hl q.2)]
  · rw [if_neg (fun q => hp q.1), if_neg (fun q => hp q.1), if_neg (fun q => hp q.1)]
/-- A cell within. -/
theorem pasteTo_in {g h : GridD} {x y : Int} {k r c : Nat} (hc : (c : Int) < h.W) (hr : (r : Int) < h.H) (h1 : 0 ≤ x + c ∧ x + c < g.W) (h2 : 0 ≤ y + r) : pasteTo g h x y (r * h.W.toNat + c + 1) k = if k = (y + r).toNat * g.W.toNat + (x + c).toNat then cat h.Cells (r * h.W.toNat + c) else pasteTo g h x y (r * h.W.toNat + c) k := by
  rw [pasteTo_step]
  have e : (pasteIn g h x y k ∧ psrc g h x y k = r * h.W.toNat + c) ↔ k = (y + r).toNat * g.W.toNat + (x + c).toNat := by
    rw [psrc_iff hc, ← dm_at (by omega)]
    omega
  by_cases hk : k = (y + r).toNat * g.W.toNat + (x + c).toNat
  · rw [if_pos (e.2 hk), if_pos hk]
  · rw [if_neg (fun q => hk (e.1 q)), if_neg hk]
/-- A cell that lies outside. -/
theorem pasteTo_out {g h : GridD} {x y : Int} {k r c : Nat} (hc : (c : Int) < h.W) (hw : 0 < g.W.toNat) (hk : k < g.W.toNat * g.H.toNat) (ho : ¬ ((0 ≤ x + c ∧ x + c < g.W) ∧ 0 ≤ y + r ∧ y + r < g.H)) : pasteTo g h x y (r * h.W.toNat + c + 1) k = pasteTo g h x y (r * h.W.toNat + c) k := by
  rw [pasteTo_step, if_neg]
  rw [psrc_iff hc]
  rintro ⟨h1, h2, h3⟩
  have h4 := Nat.mod_lt k hw
  have h5 : k / g.W.toNat < g.H.toNat := Nat.div_lt_of_lt_mul hk
  generalize k / g.W.toNat = q1 at *
  generalize k % g.W.toNat = q2 at *
  omega
/-- One after the other. -/
theorem pasteTo_inE {g h : GridD} {x y : Int} {k i r c : Nat} (e : i = r * h.W.toNat + c) (hc : (c : Int) < h.W) (hr : (r : Int) < h.H) (h1 : 0 ≤ x + c ∧ x + c < g.W) (h2 : 0 ≤ y + r) : pasteTo g h x y (i + 1) k = if k = (y + r).toNat * g.W.toNat + (x + c).toNat then cat h.Cells i else pasteTo g h x y i k := by
  subst e; exact pasteTo_in hc hr h1 h2
theorem pasteTo_outE {g h : GridD} {x y : Int} {k i r c : Nat} (e : i = r * h.W.toNat + c) (hc : (c : Int) < h.W) (hw : 0 < g.W.toNat) (hk : k < g.W.toNat * g.H.toNat) (ho : ¬ ((0 ≤ x + c ∧ x + c < g.W) ∧ 0 ≤ y + r ∧ y + r < g.H)) : pasteTo g h x y (i + 1) k = pasteTo g h x y i k := by
  subst e; exact pasteTo_out hc hw hk ho
theorem divmod_ex {i : Nat} {w h : Int} (hw : 1 ≤ w) (hh : 1 ≤ h) (hi : (i : Int) < w * h) : ∃ q m : Nat, (i : Int) / w = q ∧ (i : Int) % w = m ∧ i = q * w.toNat + m ∧ (m : Int) < w ∧ (q : Int) < h := by
  have hm := Nat.mod_lt i (show 0 < w.toNat by omega)
  have e := Nat.div_add_mod i w.toNat
  rw [Nat.mul_comm] at e
  have ew : w = (w.toNat : Int) := by omega
  have eh : h = (h.toNat : Int) := by omega
  have hd : i / w.toNat < h.toNat := Nat.div_lt_of_lt_mul (by rw [ew, eh] at hi; exact_mod_cast hi)
  refine ⟨i / w.toNat, i % w.toNat, ?_, ?_, e.symm, by omega, by omega⟩
  · rw [Int.natCast_ediv, ← ew]
  · rw [Int.natCast_emod, ← ew]
theorem gat_set2 {α : Type} {F : Enc α} {xs : List α} {i k : Nat} {v : α} (hi : i < xs.length) : gat F (xs.set i v) k = if k = i then v else gat F xs k := by
  unfold gat
  rw [List.getD_eq_getElem?_getD, List.getD_eq_getElem?_getD, List.getElem?_set]
  by_cases h : i = k
  · subst h; simp [hi]
  · rw [if_neg h, if_neg (Ne.symm h)]
theorem gat_cut {α : Type} {F : Enc α} {xs : List α} {m n k : Nat} (h : k < n) : gat F ((xs.drop m).take n) k = gat F xs (m + k) := by
  unfold gat
  rw [List.getD_eq_getElem?_getD, List.getD_eq_getElem?_getD, List.getElem?_take_of_lt h, List.getElem?_drop]
theorem toNat_mul_nat {a : Nat} {b : Int} (hb : 0 ≤ b) : ((a : Int) * b).toNat = a * b.toNat := by
  rw [Int.toNat_mul (by omega) hb]; rfl
def rowAt (g : GridD) (y : Nat) : RowD := ⟨(g.Cells.drop (y * g.W.toNat)).take g.W.toNat⟩
def lastN {α : Type} (n : Nat) (l : List α) : List α := l.drop (l.length - n)
theorem lastN_len {α : Type} {n : Nat} {l : List α} : (lastN n l).length = min l.length n := by simp [lastN]; omega
theorem lastN_all {α : Type} {n : Nat} {l : List α} (h : l.length ≤ n) : lastN n l = l := by
  unfold lastN; rw [show l.length - n = 0 by omega]; rfl
theorem lastN_snoc {α : Type} {n : Nat} {l : List α} {x : α} : lastN n (lastN n l ++ [x]) = lastN n (l ++ [x]) := by
  unfold lastN
  simp only [List.length_append, List.length_drop, List.length_singleton]
  rcases Nat.lt_or_ge n l.length with h | h
  · rw [List.drop_append, List.drop_append, List.drop_drop, List.length_drop]
    congr 2 <;> omega
  · rw [show l.length - n = 0 by omega]
    simp
def keepRows (s : ScrD) (n : Nat) : ScrD := { s with Back := lastN s.Limit.toNat (s.Back ++ (List.range n).map (rowAt s.Main)) }
theorem range_snoc {α : Type} {f : Nat → α} {n : Nat} : (List.range (n + 1)).map f = (List.range n).map f ++ [f n] := by
  rw [List.range_succ, List.map_append]; rfl
theorem keepRows_succ {s : ScrD} {n : Nat} : keepRows s (n + 1) = { keepRows s n with Back := lastN s.Limit.toNat ((keepRows s n).Back ++ [rowAt s.Main n]) } := by
  unfold keepRows
  rw [range_snoc, ← List.append_assoc, ← lastN_snoc]
theorem keepRows_zero {s : ScrD} (h : (s.Back.length : Int) ≤ s.Limit) : keepRows s 0 = s := by
  unfold keepRows
  rw [show (List.range 0).map (rowAt s.Main) = [] from rfl, List.append_nil, lastN_all (by omega)]
def sizeD (s : ScrD) (h : Int) : Int := max 0 (s.Y - h + 1)
def scrSize1 (s : ScrD) (h : Int) : ScrD := if s.OnAlt = true then s else keepRows s (sizeD s h).toNat
def scrSizeOf (s : ScrD) (w h : Int) : ScrD :=
  { scrSize1 s h with W := w, H := h, Main := gPaste (gridNew w h) s.Main 0 (-sizeD s h), Alt := gPaste (gridNew w h) s.Alt 0 (-sizeD s h), X := min s.X (w - 1), Y := s.Y - sizeD s h, Wrap := false, Top := 0, Bot := h - 1, Tabs := tabsL w, SaveX := min s.SaveX (w - 1), SaveY := min s.SaveY (h - 1) }
def scrSizeOk (s : ScrD) (w h : Int) : Bool := scrOk s && isSize w h
def scrSizeRes (s : ScrD) (w h : Int) : ScrD := if scrSizeOk s w h = true then scrSizeOf s w h else scr0
end Go.Proofs.Ytlmcekfdlgkffaa
