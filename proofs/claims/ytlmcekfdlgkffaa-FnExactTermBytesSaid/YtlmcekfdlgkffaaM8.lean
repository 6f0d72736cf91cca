/-
  Plain laws: grids and screens: what is valid, what is new.
-/
import Derived.Test.YtlmcekfdlgkffaaM7
namespace Go.Proofs.Ytlmcekfdlgkffaa
open Go Go.RowKit
set_option linter.unusedVariables false
set_option linter.unusedSimpArgs false
def isSize (w h : Int) : Bool := (within w 1 120 && within h 1 120) && decide (w * h ≤ 4000)
theorem isSize_iff {w h : Int} : isSize w h = true ↔ ((1 ≤ w ∧ w ≤ 120) ∧ 1 ≤ h ∧ h ≤ 120) ∧ w * h ≤ 4000 := by
  simp only [isSize, Bool.and_eq_true, within_iff, decide_eq_true_eq]
theorem mul_size {w h : Int} (hw : 1 ≤ w ∧ w ≤ 120) (hh : 1 ≤ h ∧ h ≤ 120) : 1 ≤ w * h ∧ w * h ≤ 14400 := by
  have h1 : 1 * 1 ≤ w * h := Int.mul_le_mul hw.1 hh.1 (by decide) (by omega)
  have h2 : w * h ≤ 120 * 120 := Int.mul_le_mul hw.2 hh.2 (by omega) (by decide)
  omega
theorem isSize_bnd {w h : Int} (hs : isSize w h = true) : (1 ≤ w ∧ w ≤ 120) ∧ (1 ≤ h ∧ h ≤ 120) ∧ 1 ≤ w * h ∧ w * h ≤ 4000 := by
  have h1 := isSize_iff.1 hs
  have h2 := mul_size h1.1.1 h1.1.2
  exact ⟨h1.1.1, h1.1.2, h2.1, h1.2⟩
abbrev blankC : CellD := ⟨32, ⟨0, 0, false, false, false⟩⟩
abbrev grid0 : GridD := ⟨0, 0, []⟩
def gridNew (w h : Int) : GridD := ⟨w, h, List.replicate (w * h).toNat blankC⟩
def tabsL (w : Int) : List Int := (List.range ((w - 1) / 8).toNat).map fun i : Nat => 8 * ((i : Int) + 1)
abbrev scr0 : ScrD := ⟨0, 0, grid0, grid0, false, 0, 0, false, ⟨0, 0, false, false, false⟩, 0, 0, false, false, 0, 0, ⟨0, 0, false, false, false⟩, [], 0, []⟩
def scrNew (w h l : Int) : ScrD := ⟨w, h, gridNew w h, gridNew w h, false, 0, 0, false, ⟨0, 0, false, false, false⟩, 0, h - 1, false, false, 0, 0, ⟨0, 0, false, false, false⟩, tabsL w, l, []⟩
def scrMay (w h l : Int) : Bool := isSize w h && within l 0 100
def scrRes (w h l : Int) : ScrD := if scrMay w h l = true then scrNew w h l else scr0
theorem tabsL_len {w : Int} (h : 1 ≤ w) : (tabsL w).length = ((w - 1) / 8).toNat := by simp [tabsL]
theorem tabsL_take {w : Int} {i : Nat} (h : 8 * ((i : Int) + 1) < w) : (List.range (i + 1)).map (fun i : Nat => 8 * ((i : Int) + 1)) = (List.range i).map (fun i : Nat => 8 * ((i : Int) + 1)) ++ [8 * ((i : Int) + 1)] := by
  rw [List.range_succ, List.map_append]; rfl
theorem tabsL_end {w : Int} {i : Nat} (h : ¬ 8 * ((i : Int) + 1) < w) (h2 : i = 0 ∨ 8 * (i : Int) < w) : (List.range i).map (fun i : Nat => 8 * ((i : Int) + 1)) = tabsL w := by
  unfold tabsL
  congr 2
  rcases h2 with rfl | h2 <;> omega
def gridOk (g : GridD) : Bool := (isSize g.W g.H && decide ((g.Cells.length : Int) = g.W * g.H)) && cellsOk g.Cells
def gridHas (g : GridD) (x y : Int) : Bool := within x 0 (g.W - 1) && within y 0 (g.H - 1)
/-- Ascending, from low to high. -/
def ascAt (l : List Int) (lo hi : Int) (i : Nat) : Bool := within (iat l i) lo hi && (decide (i = 0) || decide (iat l (i - 1) < iat l i))
def isAsc (l : List Int) (lo hi : Int) : Bool := (List.range l.length).all (ascAt l lo hi)
theorem isAsc_all {l : List Int} {lo hi : Int} (h : ∀ i, i < l.length → ascAt l lo hi i = true) : isAsc l lo hi = true := by
  unfold isAsc
  rw [List.all_eq_true]
  exact fun i hi => h i (List.mem_range.1 hi)
theorem isAsc_not {l : List Int} {lo hi : Int} {i : Nat} (hi' : i < l.length) (h : ascAt l lo hi i = false) : isAsc l lo hi = false := by
  rw [← Bool.not_eq_true]
  intro hh
  unfold isAsc at hh
  rw [List.all_eq_true] at hh
  rw [hh i (List.mem_range.2 hi')] at h
  cases h
def rowOk (r : RowD) : Bool := within r.Cells.length 1 120 && cellsOk r.Cells
def backOk (b : List RowD) (l : Int) : Bool := decide ((b.length : Int) ≤ l) && b.all rowOk
def gridFit (g : GridD) (w h : Int) : Bool := gridOk g && (decide (g.W = w) && decide (g.H = h))
def scrP1 (s : ScrD) : Bool := gridFit s.Main s.W s.H && gridFit s.Alt s.W s.H
def scrP2 (s : ScrD) : Bool := (gridHas s.Main s.X s.Y && gridHas s.Main s.SaveX s.SaveY) && ((!s.Wrap || decide (s.X = s.W - 1)) && (attrOk s.A.Fg s.A.Bg && attrOk s.SaveA.Fg s.SaveA.Bg))
def scrP3 (s : ScrD) : Bool := (decide (0 ≤ s.Top) && decide (s.Top ≤ s.Bot)) && (decide (s.Bot < s.H) && (!decide (s.Top = s.Bot) || decide (s.H = 1)))
def scrP4 (s : ScrD) : Bool := within s.Limit 0 100 && decide ((s.Back.length : Int) ≤ s.Limit)
def scrIn (s : ScrD) : Bool := (scrP1 s && scrP2 s) && (scrP3 s && scrP4 s)
def scrOk (s : ScrD) : Bool := (scrIn s && isAsc s.Tabs 0 (s.W - 1)) && s.Back.all rowOk
theorem gridOk_bnd {g : GridD} (h : gridOk g = true) : (1 ≤ g.W ∧ g.W ≤ 120) ∧ (1 ≤ g.H ∧ g.H ≤ 120) ∧ 1 ≤ g.W * g.H ∧ g.W * g.H ≤ 4000 := by
  unfold gridOk at h
  rw [Bool.and_eq_true, Bool.and_eq_true] at h
  exact isSize_bnd h.1.1
theorem gridFit_bnd {g : GridD} {w h : Int} (hf : gridFit g w h = true) : (1 ≤ w ∧ w ≤ 120) ∧ (1 ≤ h ∧ h ≤ 120) ∧ g.W = w ∧ g.H = h := by
  unfold gridFit at hf
  rw [Bool.and_eq_true, Bool.and_eq_true, decide_eq_true_eq, decide_eq_true_eq] at hf
  have := gridOk_bnd hf.1
  omega
theorem scrP1_bnd {s : ScrD} (h : scrP1 s = true) : (1 ≤ s.W ∧ s.W ≤ 120) ∧ (1 ≤ s.H ∧ s.H ≤ 120) ∧ s.Main.W = s.W ∧ s.Main.H = s.H ∧ s.Alt.W = s.W ∧ s.Alt.H = s.H := by
  unfold scrP1 at h
  rw [Bool.and_eq_true] at h
  have h1 := gridFit_bnd h.1
  have h2 := gridFit_bnd h.2
  omega
theorem scrOk_no {s : ScrD} (h : scrP1 s = false ∨ scrP2 s = false ∨ scrP3 s = false ∨ scrP4 s = false ∨ isAsc s.Tabs 0 (s.W - 1) = false ∨ s.Back.all rowOk = false) : scrOk s = false := by
  unfold scrOk scrIn
  rcases h with h | h | h | h | h | h <;> rw [h] <;> simp
theorem scrOk_yes {s : ScrD} (h1 : scrP1 s = true) (h2 : scrP2 s = true) (h3 : scrP3 s = true) : scrOk s = ((isAsc s.Tabs 0 (s.W - 1) && within s.Limit 0 100) && backOk s.Back s.Limit) := by
  unfold scrOk scrIn scrP4 backOk
  rw [h1, h2, h3]
  simp only [Bool.true_and]
  generalize within s.Limit 0 100 = a
  generalize isAsc s.Tabs 0 (s.W - 1) = b
  generalize decide ((s.Back.length : Int) ≤ s.Limit) = c
  generalize s.Back.all rowOk = d
  cases a <;> cases b <;> cases c <;> cases d <;> rfl
theorem scrOk_all {s : ScrD} (h1 : scrP1 s = true) (h2 : scrP2 s = true) (h3 : scrP3 s = true) (h4 : scrP4 s = true) (h5 : isAsc s.Tabs 0 (s.W - 1) = true) (h6 : s.Back.all rowOk = true) : scrOk s = true := by
  unfold scrOk scrIn
  rw [h1, h2, h3, h4, h5, h6]; rfl
def termOk (t : TermD) : Bool := vpOk t.P && scrOk t.S
def gridRes (w h : Int) : GridD := if isSize w h = true then gridNew w h else grid0
def termRes (w h l : Int) : TermD := ⟨vp0, scrRes w h l⟩
theorem all_gat {α β : Type} {F : Enc α} {f : α → β} {p : β → Bool} {l : List α} (h : ∀ j, j < l.length → p (f (gat F l j)) = true) : (l.map f).all p = true := by
  rw [List.all_map, List.all_eq_true]
  intro x hx
  obtain ⟨j, hj, rfl⟩ := List.mem_iff_getElem.1 hx
  have := h j hj
  rwa [show gat F l j = l[j] by simp [gat, List.getD, hj]] at this
theorem all_gat_not {α β : Type} {F : Enc α} {f : α → β} {p : β → Bool} {l : List α} {j : Nat} (hj : j < l.length) (h : p (f (gat F l j)) = false) : (l.map f).all p = false := by
  rw [← Bool.not_eq_true]
  intro hh
  rw [List.all_map, List.all_eq_true] at hh
  have h2 : p (f (gat F l j)) = true := hh _ (gat_mem hj)
  rw [h] at h2; cases h2
end Go.Proofs.Ytlmcekfdlgkffaa
