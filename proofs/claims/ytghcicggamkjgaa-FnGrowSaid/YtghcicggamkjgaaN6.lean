/-
  Plain laws: the areas of a tree's panes, looked up.
-/
import Derived.Test.YtghcicggamkjgaaN5
namespace Go.Proofs.Ytghcicggamkjgaa
open Go Go.RowKit
set_option linter.unusedVariables false
set_option linter.unusedSimpArgs false

/-- The tree that a list of nodes lays out. -/
def parseF : Nat → List NodeD → Option (Tr × List NodeD)
  | 0, _ => none
  | _ + 1, [] => none
  | k + 1, n :: r => if n.Pane ≠ 0 then some (.leaf n, r) else match parseF k r with
    | none => none
    | some (a, r1) => match parseF k r1 with
      | none => none
      | some (b, r2) => some (.split n a b, r2)
theorem parseF_flat : ∀ {T : Tr} {k : Nat} {r : List NodeD}, T.shaped → T.flat.length ≤ k → parseF k (T.flat ++ r) = some (T, r)
  | .leaf n, k, r, hs, hk => by
    cases k with
    | zero => simp [Tr.flat] at hk
    | succ k =>
      simp only [Tr.shaped] at hs
      simp [Tr.flat, parseF, hs]
  | .split n a b, k, r, hs, hk => by
    cases k with
    | zero => simp [Tr.flat] at hk
    | succ k =>
      obtain ⟨h0, h1, h2⟩ := hs
      simp only [Tr.flat, List.length_cons, List.length_append] at hk
      have ha := parseF_flat (T := a) (k := k) (r := b.flat ++ r) h1 (by omega)
      have hb := parseF_flat (T := b) (k := k) (r := r) h2 (by omega)
      simp only [Tr.flat, List.cons_append, List.append_assoc, parseF, h0, ha, hb]
      simp
def theT (t : List NodeD) : Tr := match parseF t.length t with | some (T, _) => T | none => .leaf ⟨0, false, 0⟩
theorem theT_eq {t : List NodeD} {T : Tr} (h : Valid t T) : theT t = T := by
  obtain ⟨hT, _, rfl⟩ := h
  have := parseF_flat (T := T) (k := T.flat.length) (r := []) hT (Nat.le_refl _)
  rw [List.append_nil] at this
  rw [theT, this]
theorem theT_at {t : List NodeD} (h : treeOk t = true) : At t 0 (theT t) ∧ (theT t).flat = t ∧ (theT t).shaped := by
  obtain ⟨_, ⟨T, hv⟩, _⟩ := treeOk_iff.1 h
  rw [theT_eq hv]
  exact ⟨⟨hv.1, by rw [hv.2.2]; exact hv.2.1, [], by rw [hv.2.2]; simp⟩, hv.2.2, hv.1⟩
def rect0 (w h : Int) : RectD := ⟨0, 0, 0, w, h⟩
theorem fine0 {w h : Int} (hw : within w 1 120 = true) (hh : within h 1 120 = true) : Fine ⟨0, 0, 0, w, h⟩ := by
  rw [within_iff] at hw hh
  constructor <;> simp <;> omega
def sidesOk (t : List NodeD) (w h : Int) : Bool := treeOk t && within w 1 120 && within h 1 120
def placesOk (t : List NodeD) (w h : Int) : Bool := sidesOk t w h && (placeS (theT t) ⟨0, 0, 0, w, h⟩).2
def placesL (t : List NodeD) (w h : Int) : List RectD := if placesOk t w h = true then (placeS (theT t) ⟨0, 0, 0, w, h⟩).1 else []
def areasL (t : List NodeD) (w h : Int) : List RectD := if sidesOk t w h = true then (putL (theT t) ⟨0, 0, 0, w, h⟩).1 else []
theorem placesL_len (t : List NodeD) (w h : Int) : (placesL t w h).length ≤ 31 := by
  unfold placesL
  split
  · rename_i hp
    simp only [placesOk, sidesOk, Bool.and_eq_true] at hp
    have h1 := treeOk_len hp.1.1.1
    have h2 := placeS_len (T := theT t) (r := ⟨0, 0, 0, w, h⟩)
    rw [(theT_at hp.1.1.1).2.1] at h2
    omega
  · simp
theorem areasL_len (t : List NodeD) (w h : Int) : (areasL t w h).length ≤ 31 := by
  unfold areasL
  split
  · rename_i hp
    simp only [sidesOk, Bool.and_eq_true] at hp
    have h1 := treeOk_len hp.1.1
    have h2 := putL_len (T := theT t) (r := ⟨0, 0, 0, w, h⟩)
    rw [(theT_at hp.1.1).2.1] at h2
    omega
  · simp
theorem put_eq {t : List NodeD} {w h : Int} (ht : treeOk t = true) : (putL (theT t) ⟨0, 0, 0, w, h⟩).2 = (placeS (theT t) ⟨0, 0, 0, w, h⟩).2 := (put_place (theT_at ht).2.2).1
theorem areas_filter {t : List NodeD} {w h : Int} (hp : placesOk t w h = true) : (areasL t w h).filter (fun r => !decide (r.Pane = 0)) = placesL t w h := by
  have hp' := hp
  simp only [placesOk, Bool.and_eq_true] at hp'
  have hs := hp'.1
  simp only [sidesOk, Bool.and_eq_true] at hs
  rw [areasL, if_pos hp'.1, placesL, if_pos hp, ← (put_place (theT_at hs.1.1).2.2).2 hp'.2]
  congr 1
  funext r
  simp [isLeafR]
def placeAt (t : List NodeD) (w h p : Int) : Int := findI (fun r : RectD => decide (r.Pane = p)) (placesL t w h)
def placeR (t : List NodeD) (w h p : Int) : RectD := if 0 ≤ placeAt t w h p then gat encRect (placesL t w h) (placeAt t w h p).toNat else ⟨0, 0, 0, 0, 0⟩
theorem placeAt_lt (t : List NodeD) (w h p : Int) : -1 ≤ placeAt t w h p ∧ placeAt t w h p < (placesL t w h).length := findI_lt
end Go.Proofs.Ytghcicggamkjgaa
