/-
  Plain laws: areas lie within the whole; what is beside what; what is left of a row when some are taken out.
-/
import Derived.Test.YtghcicggamkjgaaN6
namespace Go.Proofs.Ytghcicggamkjgaa
open Go Go.RowKit
set_option linter.unusedVariables false
set_option linter.unusedSimpArgs false

/-- An area within another. -/
structure Within (q r : RectD) : Prop where
  x0 : r.X ≤ q.X
  y0 : r.Y ≤ q.Y
  w1 : 1 ≤ q.W
  h1 : 1 ≤ q.H
  x1 : q.X + q.W ≤ r.X + r.W
  y1 : q.Y + q.H ≤ r.Y + r.H
theorem Within.trans {a b c : RectD} (h : Within a b) (k : Within b c) : Within a c :=
  ⟨by have := h.x0; have := k.x0; omega, by have := h.y0; have := k.y0; omega, h.w1, h.h1, by have := h.x1; have := k.x1; omega, by have := h.y1; have := k.y1; omega⟩
def Firsts (T : Tr) : Prop := ∀ n, n ∈ T.flat → n.Pane = 0 → 1 ≤ n.First
theorem within_first {r : RectD} {n : NodeD} (hw : 1 ≤ r.W) (hh : 1 ≤ r.H) (hf : 1 ≤ n.First) (hs : 3 ≤ sizeR n r) : Within (firstR n r) r := by
  unfold sizeR at hs
  unfold firstR
  split at hs <;> rename_i hd <;> simp only [hd] <;> constructor <;> simp <;> omega
theorem within_second {r : RectD} {n : NodeD} (hw : 1 ≤ r.W) (hh : 1 ≤ r.H) (hf : 1 ≤ n.First) (hs : 3 ≤ sizeR n r) : Within (secondR n r) r := by
  unfold sizeR at hs
  unfold secondR
  split at hs <;> rename_i hd <;> simp only [hd] <;> constructor <;> simp <;> omega
theorem placeS_within : ∀ {T : Tr} {r : RectD}, T.shaped → Firsts T → 1 ≤ r.W → 1 ≤ r.H → ∀ q, q ∈ (placeS T r).1 → Within q r
  | .leaf n, r, _, _, hw, hh, q, hq => by
    simp [placeS] at hq
    subst hq
    constructor <;> simp <;> omega
  | .split n a b, r, h, hf, hw, hh, q, hq => by
    obtain ⟨h0, h1, h2⟩ := h
    have hn := hf n (by simp [Tr.flat]) h0
    simp only [placeS] at hq
    split at hq
    · rename_i hs
      have w1 := within_first hw hh hn hs
      have w2 := within_second hw hh hn hs
      rcases List.mem_append.1 hq with hq | hq
      · exact (placeS_within h1 (fun m hm => hf m (by simp [Tr.flat, hm])) w1.w1 w1.h1 q hq).trans w1
      · exact (placeS_within h2 (fun m hm => hf m (by simp [Tr.flat, hm])) w2.w1 w2.h1 q hq).trans w2
    · simp at hq
theorem firsts_of {t : List NodeD} (h : treeOk t = true) : Firsts (theT t) := by
  intro n hn hp
  rw [(theT_at h).2.1] at hn
  obtain ⟨_, ⟨T, hT, ho, hf⟩, _⟩ := treeOk_iff.1 h
  have := ho n hn
  rw [nodeOk, if_pos hp, within_iff] at this
  exact this.1
theorem placesL_within {t : List NodeD} {w h : Int} : ∀ q, q ∈ placesL t w h → Within q ⟨0, 0, 0, w, h⟩ ∧ w ≤ 120 ∧ h ≤ 120 := by
  intro q hq
  unfold placesL at hq
  split at hq
  · rename_i hp
    simp only [placesOk, sidesOk, Bool.and_eq_true, within_iff] at hp
    exact ⟨placeS_within (theT_at hp.1.1.1).2.2 (firsts_of hp.1.1.1) hp.1.1.2.1 hp.1.2.1 q hq, hp.1.1.2.2, hp.1.2.2⟩
  · simp at hq
theorem placesL_bound {t : List NodeD} {w h : Int} {k : Nat} (hk : k < (placesL t w h).length) : 0 ≤ (gat encRect (placesL t w h) k).X ∧ (gat encRect (placesL t w h) k).X ≤ 120 ∧ 0 ≤ (gat encRect (placesL t w h) k).Y ∧ (gat encRect (placesL t w h) k).Y ≤ 120 ∧ 0 ≤ (gat encRect (placesL t w h) k).W ∧ (gat encRect (placesL t w h) k).W ≤ 120 ∧ 0 ≤ (gat encRect (placesL t w h) k).H ∧ (gat encRect (placesL t w h) k).H ≤ 120 := by
  obtain ⟨h1, h2, h3⟩ := placesL_within _ (gat_mem (F := encRect) hk)
  obtain ⟨a, b, c, d, e, f⟩ := h1
  simp only at a b c d e f
  refine ⟨?_, ?_, ?_, ?_, ?_, ?_, ?_, ?_⟩ <;> omega
theorem placeR_bound {t : List NodeD} {w h p : Int} : 0 ≤ (placeR t w h p).X ∧ (placeR t w h p).X ≤ 120 ∧ 0 ≤ (placeR t w h p).Y ∧ (placeR t w h p).Y ≤ 120 ∧ 0 ≤ (placeR t w h p).W ∧ (placeR t w h p).W ≤ 120 ∧ 0 ≤ (placeR t w h p).H ∧ (placeR t w h p).H ≤ 120 := by
  unfold placeR
  split
  · have h1 := placeAt_lt t w h p
    exact placesL_bound (by omega)
  · simp
def meetB (a n b m : Int) : Bool := decide (a < b + m) && decide (b < a + n)
def besideB (r own : RectD) (side : Int) : Bool :=
  decide (side = 76) && (decide (r.X + r.W + 1 = own.X) && meetB r.Y r.H own.Y own.H) || decide (side = 82) && (decide (own.X + own.W + 1 = r.X) && meetB r.Y r.H own.Y own.H) ||
  decide (side = 85) && (decide (r.Y + r.H + 1 = own.Y) && meetB r.X r.W own.X own.W) || decide (side = 68) && (decide (own.Y + own.H + 1 = r.Y) && meetB r.X r.W own.X own.W)
def besideS (r own : RectD) (side : Int) : Bool :=
  decide (side = 76) && decide (r.X + r.W + 1 = own.X) && meetB own.Y own.H r.Y r.H || decide (side = 82) && decide (own.X + own.W + 1 = r.X) && meetB own.Y own.H r.Y r.H ||
  decide (side = 85) && decide (r.Y + r.H + 1 = own.Y) && meetB own.X own.W r.X r.W || decide (side = 68) && decide (own.Y + own.H + 1 = r.Y) && meetB own.X own.W r.X r.W
theorem meetB_comm (a n b m : Int) : meetB a n b m = meetB b m a n := by
  unfold meetB
  rw [Bool.and_comm]
theorem besideS_eq (r own : RectD) (side : Int) : besideS r own side = besideB r own side := by
  unfold besideS besideB
  rw [meetB_comm own.Y, meetB_comm own.X]
  simp only [Bool.and_assoc]
theorem spec_beside_yes {c : Prop} [Decidable c] {r own : RectD} {side : Int} (h : (decide c && besideS r own side) = true) : c ∧ besideB r own side = true := by
  rw [besideS_eq, Bool.and_eq_true, decide_eq_true_eq] at h
  exact h
theorem spec_beside_no {c : Prop} [Decidable c] {r own : RectD} {side : Int} (h : (decide c && besideS r own side) = false) : c → besideB r own side = false := by
  intro hc
  rw [besideS_eq] at h
  simpa [hc] using h
def besideAt (t : List NodeD) (p side w h : Int) : Int := findI (fun r => besideB r (placeR t w h p) side) (placesL t w h)
def besideL (t : List NodeD) (p side w h : Int) : Int := if 0 ≤ placeAt t w h p then (if 0 ≤ besideAt t p side w h then (gat encRect (placesL t w h) (besideAt t p side w h).toNat).Pane else 0) else 0
/-- Taking out what has a property, from the left. -/
theorem filter_take {α : Type} {F : Enc α} {p : α → Bool} {xs : List α} {j : Nat} (hj : j < xs.length) : (xs.take (j + 1)).filter p = (xs.take j).filter p ++ (if p (gat F xs j) = true then [gat F xs j] else []) := by
  rw [List.take_add_one, gat_get (F := F) hj, List.filter_append]
  congr 1
  cases h : p (gat F xs j) <;> simp [h]
theorem filter_none {α : Type} {p : α → Bool} {xs : List α} (h : ∀ x, x ∈ xs → p x = false) : xs.filter (fun x => !p x) = xs := by
  rw [List.filter_eq_self]
  intro x hx
  simp [h x hx]
theorem set_take {α : Type} {zs : List α} {i : Nat} {x : α} (h : i < zs.length) : (zs.set i x).take (i + 1) = zs.take i ++ [x] := by
  have hl : (zs.set i x)[i]? = some x := by simp [h]
  rw [List.take_add_one, hl, List.take_set_of_le (Nat.le_refl i)]
  rfl
theorem gat_set_ne {α : Type} {F : Enc α} {zs : List α} {i k : Nat} {x : α} (h : k ≠ i) : gat F (zs.set i x) k = gat F zs k := by
  unfold gat
  simp [List.getD_eq_getElem?_getD, List.getElem?_set_ne (Ne.symm h)]
end Go.Proofs.Ytghcicggamkjgaa
