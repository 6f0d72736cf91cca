/-
  Plain laws: a leaf split in two.
-/
import Derived.Test.YtghcicggamkjgaaN7
namespace Go.Proofs.Ytghcicggamkjgaa
open Go Go.RowKit
set_option linter.unusedVariables false
set_option linter.unusedSimpArgs false

theorem placeAt_some {t : List NodeD} {w h p : Int} (h0 : 0 ≤ placeAt t w h p) : placesOk t w h = true ∧ p ∈ panesL t := by
  unfold placeAt at h0
  rcases findI_cases (p := fun r : RectD => decide (r.Pane = p)) (xs := placesL t w h) with ⟨h1, _⟩ | ⟨i, hi, h1, h2, _⟩
  · rw [h1] at h0; omega
  · have hp : placesOk t w h = true := by
      cases e : placesOk t w h with
      | true => rfl
      | false =>
        have : placesL t w h = [] := by rw [placesL, e]; rfl
        rw [this] at hi
        simp at hi
    refine ⟨hp, ?_⟩
    have hp' := hp
    simp only [placesOk, sidesOk, Bool.and_eq_true] at hp'
    have e := placeS_panes (T := theT t) (r := ⟨0, 0, 0, w, h⟩) (theT_at hp'.1.1.1).2.2 hp'.2
    rw [(theT_at hp'.1.1.1).2.1] at e
    have e2 : placesL t w h = (placeS (theT t) ⟨0, 0, 0, w, h⟩).1 := by rw [placesL, if_pos hp]
    rw [← e, ← e2]
    simp only [decide_eq_true_eq] at h2
    exact List.mem_map.2 ⟨_, List.getElem_mem hi, h2⟩
theorem atL_some {t : List NodeD} {p : Int} (h : p ∈ panesL t) : 0 ≤ atL t p := by
  unfold panesL at h
  obtain ⟨n, hn, rfl⟩ := List.mem_map.1 h
  rw [List.mem_filter] at hn
  have hn2 : n.Pane ≠ 0 := by simpa using hn.2
  unfold atL
  rcases findI_cases (p := fun m : NodeD => !decide (m.Pane = 0) && decide (m.Pane = n.Pane)) (xs := t) with ⟨_, h2⟩ | ⟨i, _, h1, _⟩
  · have := h2 n hn.1
    simp [hn2] at this
  · rw [h1]; omega
theorem placeAt_at {t : List NodeD} {w h p : Int} (h0 : 0 ≤ placeAt t w h p) : treeOk t = true ∧ 0 ≤ atL t p := by
  obtain ⟨h1, h2⟩ := placeAt_some h0
  simp only [placesOk, sidesOk, Bool.and_eq_true] at h1
  exact ⟨h1.1.1.1, atL_some h2⟩
def lenR (t : List NodeD) (w h p : Int) (down : Bool) : Int := if down = true then (placeR t w h p).H else (placeR t w h p).W
def splitOut (t : List NodeD) (p fresh : Int) (down : Bool) (w h : Int) : List NodeD :=
  t.take (atL t p).toNat ++ [⟨0, down, (lenR t w h p down - 1) / 2⟩, gat encNode t (atL t p).toNat, ⟨fresh, false, 0⟩] ++ t.drop ((atL t p).toNat + 1)
def splitOk (t : List NodeD) (p fresh : Int) (down : Bool) (w h : Int) : Bool := decide (0 ≤ placeAt t w h p) && decide (3 ≤ lenR t w h p down) && treeOk (splitOut t p fresh down w h)
def splitL (t : List NodeD) (p fresh : Int) (down : Bool) (w h : Int) : List NodeD := if splitOk t p fresh down w h = true then splitOut t p fresh down w h else []
theorem splitL_len (t : List NodeD) (p fresh : Int) (down : Bool) (w h : Int) : (splitL t p fresh down w h).length ≤ 31 := by
  unfold splitL
  split
  · rename_i hk
    simp only [splitOk, Bool.and_eq_true] at hk
    exact treeOk_len hk.2
  · simp
theorem split_fresh {t : List NodeD} {p fresh : Int} {down : Bool} {w h : Int} (hk : treeOk (splitOut t p fresh down w h) = true) : isId fresh = true ∧ fresh ≠ 0 := by
  have hm : (⟨fresh, false, 0⟩ : NodeD) ∈ splitOut t p fresh down w h := by simp [splitOut]
  obtain ⟨i, hi, he⟩ := List.mem_iff_getElem.1 hm
  have h1 := treeOk_node hk hi
  have e : gat encNode (splitOut t p fresh down w h) i = ⟨fresh, false, 0⟩ := by
    have e_ := gat_get (F := encNode) hi
    rw [List.getElem?_eq_getElem hi] at e_
    rw [← Option.some.inj e_, he]
  rw [e] at h1
  unfold nodeOk at h1
  split at h1
  · simp [within] at h1
  · simp only [leafOk, Bool.and_eq_true] at h1
    exact ⟨h1.1.1, by assumption⟩
theorem lenR_bound {t : List NodeD} {w h p : Int} {down : Bool} : 0 ≤ lenR t w h p down ∧ lenR t w h p down ≤ 120 := by
  have := placeR_bound (t := t) (w := w) (h := h) (p := p)
  unfold lenR
  split <;> omega
end Go.Proofs.Ytghcicggamkjgaa
