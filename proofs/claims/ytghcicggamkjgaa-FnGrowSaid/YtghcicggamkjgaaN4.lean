/-
  Plain laws: the areas of a tree.
-/
import Derived.Test.YtghcicggamkjgaaN3
namespace Go.Proofs.Ytghcicggamkjgaa
open Go Go.RowKit
set_option linter.unusedVariables false
set_option linter.unusedSimpArgs false

def sizeR (n : NodeD) (r : RectD) : Int := if n.Down = true then r.H else r.W
def firstR (n : NodeD) (r : RectD) : RectD := if n.Down = true then { r with H := min n.First (r.H - 2) } else { r with W := min n.First (r.W - 2) }
def secondR (n : NodeD) (r : RectD) : RectD :=
  if n.Down = true then { r with Y := r.Y + min n.First (r.H - 2) + 1, H := r.H - min n.First (r.H - 2) - 1 } else { r with X := r.X + min n.First (r.W - 2) + 1, W := r.W - min n.First (r.W - 2) - 1 }
/-- A place on a terminal. -/
structure Fine (r : RectD) : Prop where
  pane : r.Pane = 0
  x : 0 ≤ r.X
  y : 0 ≤ r.Y
  w : 1 ≤ r.W
  h : 1 ≤ r.H
  xw : r.X + r.W ≤ 120
  yh : r.Y + r.H ≤ 120
theorem Fine.first {r : RectD} {n : NodeD} (h : Fine r) (hf : 1 ≤ n.First) (hs : 3 ≤ sizeR n r) : Fine (firstR n r) := by
  obtain ⟨h0, h1, h2, h3, h4, h5, h6⟩ := h
  unfold sizeR at hs
  unfold firstR
  split at hs <;> rename_i hd <;> simp only [hd] <;> constructor <;> simp <;> omega
theorem Fine.second {r : RectD} {n : NodeD} (h : Fine r) (hf : 1 ≤ n.First) (hs : 3 ≤ sizeR n r) : Fine (secondR n r) := by
  obtain ⟨h0, h1, h2, h3, h4, h5, h6⟩ := h
  unfold sizeR at hs
  unfold secondR
  split at hs <;> rename_i hd <;> simp only [hd] <;> constructor <;> simp <;> omega
/-- The areas of all nodes, as far as there is room. -/
def putL : Tr → RectD → List RectD × Bool
  | .leaf n, r => ([{ r with Pane := n.Pane }], true)
  | .split n a b, r =>
    if 3 ≤ sizeR n r then
      if (putL a (firstR n r)).2 = true then ({ r with Pane := n.Pane } :: ((putL a (firstR n r)).1 ++ (putL b (secondR n r)).1), (putL b (secondR n r)).2)
      else ({ r with Pane := n.Pane } :: (putL a (firstR n r)).1, false)
    else ([{ r with Pane := n.Pane }], false)
/-- The areas of the leaves. -/
def placeS : Tr → RectD → List RectD × Bool
  | .leaf n, r => ([{ r with Pane := n.Pane }], true)
  | .split n a b, r => if 3 ≤ sizeR n r then ((placeS a (firstR n r)).1 ++ (placeS b (secondR n r)).1, (placeS a (firstR n r)).2 && (placeS b (secondR n r)).2) else ([], false)
def isLeafR (r : RectD) : Bool := decide (r.Pane ≠ 0)
theorem put_place : ∀ {T : Tr} {r : RectD}, T.shaped → (putL T r).2 = (placeS T r).2 ∧ ((placeS T r).2 = true → (putL T r).1.filter isLeafR = (placeS T r).1)
  | .leaf n, r, h => by
    simp only [Tr.shaped] at h
    simp [putL, placeS, isLeafR, h]
  | .split n a b, r, h => by
    obtain ⟨h0, h1, h2⟩ := h
    obtain ⟨e1, e2⟩ := put_place (T := a) (r := firstR n r) h1
    obtain ⟨e3, e4⟩ := put_place (T := b) (r := secondR n r) h2
    simp only [putL, placeS]
    by_cases hs : 3 ≤ sizeR n r
    · simp only [hs, if_true]
      cases ea : (placeS a (firstR n r)).2 with
      | false =>
        rw [ea] at e1
        simp [e1]
      | true =>
        rw [ea] at e1
        simp only [e1, if_true, Bool.true_and]
        refine ⟨e3, fun hb => ?_⟩
        rw [List.filter_cons, if_neg (by simp [isLeafR, h0]), List.filter_append, e2 ea, e4 hb]
    · simp [hs]
theorem placeS_panes : ∀ {T : Tr} {r : RectD}, T.shaped → (placeS T r).2 = true → (placeS T r).1.map (·.Pane) = panesL T.flat
  | .leaf n, r, h, _ => by
    simp only [Tr.shaped] at h
    simp [placeS, panesL, Tr.flat, h]
  | .split n a b, r, h, hp => by
    obtain ⟨h0, h1, h2⟩ := h
    simp only [placeS] at hp ⊢
    by_cases hs : 3 ≤ sizeR n r
    · simp only [hs, if_true, Bool.and_eq_true] at hp ⊢
      have e1 := placeS_panes h1 hp.1
      have e2 := placeS_panes h2 hp.2
      rw [List.map_append, e1, e2]
      simp [panesL, Tr.flat, h0]
    · simp [hs] at hp
theorem putL_len : ∀ {T : Tr} {r : RectD}, (putL T r).1.length ≤ T.flat.length
  | .leaf n, r => by simp [putL, Tr.flat]
  | .split n a b, r => by
    have h1 := putL_len (T := a) (r := firstR n r)
    have h2 := putL_len (T := b) (r := secondR n r)
    simp only [putL, Tr.flat, List.length_cons, List.length_append]
    (repeat' split) <;> simp <;> omega
theorem placeS_len : ∀ {T : Tr} {r : RectD}, (placeS T r).1.length ≤ T.flat.length
  | .leaf n, r => by simp [placeS, Tr.flat]
  | .split n a b, r => by
    have h1 := placeS_len (T := a) (r := firstR n r)
    have h2 := placeS_len (T := b) (r := secondR n r)
    simp only [placeS, Tr.flat, List.length_cons, List.length_append]
    split <;> simp <;> omega
end Go.Proofs.Ytghcicggamkjgaa
