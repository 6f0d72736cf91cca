/-
  Plain laws: the areas of a made tree are apart and fill the whole but for the borders.
-/
import Derived.Test.YtghcicggamkjgaaN12
namespace Go.Proofs.Ytghcicggamkjgaa
open Go Go.RowKit
set_option linter.unusedVariables false
set_option linter.unusedSimpArgs false

def areaR (q : RectD) : Int := q.W * q.H
def sumA (l : List RectD) : Int := (l.map areaR).sum
theorem sumA_append (a b : List RectD) : sumA (a ++ b) = sumA a + sumA b := by simp [sumA, List.sum_append]
theorem sumA_take {l : List RectD} {i : Nat} (h : i < l.length) : sumA (l.take (i + 1)) = sumA (l.take i) + (gat encRect l i).W * (gat encRect l i).H := by
  rw [List.take_add_one, gat_get (F := encRect) h, sumA_append]
  simp [sumA, areaR]
theorem sumA_nonneg : ∀ {l : List RectD}, (∀ q, q ∈ l → 1 ≤ q.W ∧ 1 ≤ q.H) → 0 ≤ sumA l
  | [], _ => by simp [sumA]
  | x :: r, h => by
    have h1 := sumA_nonneg (l := r) fun q hq => h q (List.mem_cons_of_mem _ hq)
    have h2 := h x List.mem_cons_self
    have h3 : 0 ≤ x.W * x.H := Int.mul_nonneg (by omega) (by omega)
    simp only [sumA, areaR, List.map_cons, List.sum_cons] at h1 ⊢
    omega
/-- Two areas that have no cell in common. -/
def apart (q r : RectD) : Prop := ¬ (q.X < r.X + r.W ∧ r.X < q.X + q.W ∧ q.Y < r.Y + r.H ∧ r.Y < q.Y + q.H)
theorem place_apart : ∀ {T : Tr} {r : RectD}, T.shaped → Firsts T → 1 ≤ r.W → 1 ≤ r.H → (placeS T r).1.Pairwise apart
  | .leaf n, r, _, _, _, _ => by simp [placeS]
  | .split n a b, r, h, hf, hw, hh => by
    obtain ⟨h0, h1, h2⟩ := h
    have hn := hf n (by simp [Tr.flat]) h0
    have hfa : Firsts a := fun m hm => hf m (by simp [Tr.flat, hm])
    have hfb : Firsts b := fun m hm => hf m (by simp [Tr.flat, hm])
    simp only [placeS]
    split
    · rename_i hs
      have w1 := within_first hw hh hn hs
      have w2 := within_second hw hh hn hs
      rw [List.pairwise_append]
      refine ⟨place_apart h1 hfa w1.w1 w1.h1, place_apart h2 hfb w2.w1 w2.h1, fun q hq q' hq' => ?_⟩
      have i1 := placeS_within h1 hfa w1.w1 w1.h1 q hq
      have i2 := placeS_within h2 hfb w2.w1 w2.h1 q' hq'
      obtain ⟨a1, a2, a3, a4, a5, a6⟩ := i1
      obtain ⟨b1, b2, b3, b4, b5, b6⟩ := i2
      unfold apart
      by_cases hd : n.Down = true
      · simp only [firstR, secondR, hd, if_true] at *
        omega
      · simp only [firstR, secondR, hd, if_false, Bool.false_eq_true] at *
        omega
    · exact List.Pairwise.nil
theorem place_sum : ∀ {T : Tr} {r : RectD}, T.shaped → Firsts T → 1 ≤ r.W → 1 ≤ r.H → r.W ≤ 24 → r.H ≤ 24 → (placeS T r).2 = true →
    sumA (placeS T r).1 ≤ r.W * r.H ∧ r.W * r.H ≤ sumA (placeS T r).1 + 25 * (((panesL T.flat).length : Int) - 1) ∧ ((panesL T.flat).length = 1 → sumA (placeS T r).1 = r.W * r.H)
  | .leaf n, r, h, _, _, _, _, _, _ => by
    simp only [Tr.shaped] at h
    simp [placeS, sumA, areaR, panesL, Tr.flat, h]
  | .split n a b, r, h, hf, hw, hh, hw2, hh2, hp => by
    obtain ⟨h0, h1, h2⟩ := h
    have hn := hf n (by simp [Tr.flat]) h0
    have hfa : Firsts a := fun m hm => hf m (by simp [Tr.flat, hm])
    have hfb : Firsts b := fun m hm => hf m (by simp [Tr.flat, hm])
    simp only [placeS] at hp ⊢
    by_cases hs : 3 ≤ sizeR n r
    · simp only [if_pos hs, Bool.and_eq_true] at hp ⊢
      have w1 := within_first hw hh hn hs
      have w2 := within_second hw hh hn hs
      have x1 := w1.x1; have x2 := w1.x0; have y1 := w1.y1; have y2 := w1.y0
      have z1 := w2.x1; have z2 := w2.x0; have u1 := w2.y1; have u2 := w2.y0
      obtain ⟨s1, s2, s3⟩ := place_sum h1 hfa w1.w1 w1.h1 (by omega) (by omega) hp.1
      obtain ⟨t1, t2, t3⟩ := place_sum h2 hfb w2.w1 w2.h1 (by omega) (by omega) hp.2
      have hla : 0 < (panesL a.flat).length := by
        have := congrArg List.length (placeS_panes h1 hp.1)
        rw [List.length_map] at this
        obtain ⟨⟨q, hq, _⟩, _⟩ := place_edges h1 hfa w1.w1 w1.h1 hp.1
        have := List.length_pos_of_mem hq
        omega
      have hlb : 0 < (panesL b.flat).length := by
        have := congrArg List.length (placeS_panes h2 hp.2)
        rw [List.length_map] at this
        obtain ⟨⟨q, hq, _⟩, _⟩ := place_edges h2 hfb w2.w1 w2.h1 hp.2
        have := List.length_pos_of_mem hq
        omega
      rw [sumA_append, Tr.flat, panesL_split h0, panesL_append, List.length_append]
      by_cases hd : n.Down = true
      · simp only [firstR, secondR, hd, if_true] at s1 s2 t1 t2 ⊢
        have e : r.W * r.H = r.W * min n.First (r.H - 2) + r.W + r.W * (r.H - min n.First (r.H - 2) - 1) := by
          have : r.H = min n.First (r.H - 2) + 1 + (r.H - min n.First (r.H - 2) - 1) := by omega
          conv => lhs; rw [this]
          rw [Int.mul_add, Int.mul_add, Int.mul_one]
        refine ⟨by omega, by omega, fun h => by omega⟩
      · simp only [firstR, secondR, hd, if_false, Bool.false_eq_true] at s1 s2 t1 t2 ⊢
        have e : r.W * r.H = min n.First (r.W - 2) * r.H + r.H + (r.W - min n.First (r.W - 2) - 1) * r.H := by
          have : r.W = min n.First (r.W - 2) + 1 + (r.W - min n.First (r.W - 2) - 1) := by omega
          conv => lhs; rw [this]
          rw [Int.add_mul, Int.add_mul, Int.one_mul]
        refine ⟨by omega, by omega, fun h => by omega⟩
    · simp [hs] at hp
theorem flat_len : ∀ {T : Tr}, T.shaped → T.flat.length + 1 = 2 * (panesL T.flat).length
  | .leaf n, h => by
    simp only [Tr.shaped] at h
    simp [panesL, Tr.flat, h]
  | .split n a b, h => by
    obtain ⟨h0, h1, h2⟩ := h
    have ea := flat_len h1
    have eb := flat_len h2
    rw [Tr.flat, panesL_split h0, panesL_append]
    simp only [List.length_cons, List.length_append]
    omega
structure TreeFacts (t : List NodeD) : Prop where
  ok : placesOk t 24 12 = true
  lv : leavesL t = panesL t
  len : (placesL t 24 12).length = (panesL t).length
  nodes : t.length + 1 = 2 * (panesL t).length
  pane : ∀ i, i < (panesL t).length → (gat encRect (placesL t 24 12) i).Pane = iat (panesL t) i
  inn : ∀ i, i < (panesL t).length → 0 ≤ (gat encRect (placesL t 24 12) i).X ∧ 0 ≤ (gat encRect (placesL t 24 12) i).Y ∧ 1 ≤ (gat encRect (placesL t 24 12) i).W ∧ 1 ≤ (gat encRect (placesL t 24 12) i).H ∧
    (gat encRect (placesL t 24 12) i).X + (gat encRect (placesL t 24 12) i).W ≤ 24 ∧ (gat encRect (placesL t 24 12) i).Y + (gat encRect (placesL t 24 12) i).H ≤ 12
  apart : ∀ j i, j < i → i < (panesL t).length → apart (gat encRect (placesL t 24 12) j) (gat encRect (placesL t 24 12) i)
  sum : ∀ i, i ≤ (panesL t).length → 0 ≤ sumA ((placesL t 24 12).take i) ∧ sumA ((placesL t 24 12).take i) ≤ 288
  least : 288 ≤ sumA (placesL t 24 12) + 25 * (((panesL t).length : Int) - 1)
  one : (panesL t).length = 1 → sumA (placesL t 24 12) = 288
  pos : 0 < (panesL t).length
theorem facts_of {t : List NodeD} (h : placesOk t 24 12 = true) : TreeFacts t := by
  have hp' := h
  simp only [placesOk, sidesOk, Bool.and_eq_true] at hp'
  have hto := hp'.1.1.1
  obtain ⟨_, hfl, hsh⟩ := theT_at hto
  have e := placeS_panes (T := theT t) (r := ⟨0, 0, 0, 24, 12⟩) hsh hp'.2
  rw [hfl] at e
  have epl : placesL t 24 12 = (placeS (theT t) ⟨0, 0, 0, 24, 12⟩).1 := by rw [placesL, if_pos h]
  rw [← epl] at e
  have hlen : (placesL t 24 12).length = (panesL t).length := by rw [← e, List.length_map]
  have hw : ∀ q, q ∈ placesL t 24 12 → Within q ⟨0, 0, 0, 24, 12⟩ := fun q hq => (placesL_within q hq).1
  have hap := place_apart (r := ⟨0, 0, 0, 24, 12⟩) hsh (firsts_of hto) (by decide) (by decide)
  rw [← epl] at hap
  have hsum := place_sum (r := ⟨0, 0, 0, 24, 12⟩) hsh (firsts_of hto) (by decide) (by decide) (by decide) (by decide) hp'.2
  rw [← epl, hfl] at hsum
  have hfl2 := flat_len hsh
  rw [hfl] at hfl2
  have hge : ∀ i, i < (placesL t 24 12).length → (placesL t 24 12)[i]? = some (gat encRect (placesL t 24 12) i) := fun i hi => gat_get hi
  refine ⟨h, leaves_ok hto, hlen, hfl2, fun i hi => ?_, fun i hi => ?_, fun j i hji hi => ?_, fun i hi => ?_, by simpa using hsum.2.1, fun h1 => by simpa using hsum.2.2 h1, panes_pos hto⟩
  · have h1 := gat_get (F := encI) hi
    rw [← e] at h1
    rw [List.getElem?_map, hge i (by omega)] at h1
    rw [← e]
    exact Option.some.inj h1
  · obtain ⟨a, b, c, d, f, g⟩ := hw _ (gat_mem (F := encRect) (show i < (placesL t 24 12).length by omega))
    simp only at a b f g
    omega
  · have h1 := List.pairwise_iff_getElem.1 hap j i (by omega) (by omega) hji
    have g1 := hge j (by omega)
    have g2 := hge i (by omega)
    rw [List.getElem?_eq_getElem (by omega)] at g1 g2
    rw [← Option.some.inj g1, ← Option.some.inj g2]
    exact h1
  · have h1 := sumA_nonneg (l := (placesL t 24 12).take i) fun q hq => by
      have := hw q (List.mem_of_mem_take hq)
      exact ⟨this.w1, this.h1⟩
    have h2 := sumA_nonneg (l := (placesL t 24 12).drop i) fun q hq => by
      have := hw q (List.mem_of_mem_drop hq)
      exact ⟨this.w1, this.h1⟩
    have h3 := sumA_append ((placesL t 24 12).take i) ((placesL t 24 12).drop i)
    rw [List.take_append_drop] at h3
    have h4 := hsum.1
    simp only at h4
    omega
theorem gat_take {l : List RectD} {i j : Nat} (h : j < i) : gat encRect (l.take i) j = gat encRect l j := by
  unfold gat
  simp [List.getD_eq_getElem?_getD, List.getElem?_take, h]
end Go.Proofs.Ytghcicggamkjgaa
