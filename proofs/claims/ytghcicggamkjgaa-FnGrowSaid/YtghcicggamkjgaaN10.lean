/-
  Plain laws: a border moved.
-/
import Derived.Test.YtghcicggamkjgaaN9
namespace Go.Proofs.Ytghcicggamkjgaa
open Go Go.RowKit
set_option linter.unusedVariables false
set_option linter.unusedSimpArgs false

theorem mem_panes {l : List NodeD} {x : Int} : x ∈ panesL l ↔ ∃ n, n ∈ l ∧ n.Pane = x ∧ x ≠ 0 := by
  unfold panesL
  rw [List.mem_map]
  constructor
  · rintro ⟨n, hn, rfl⟩
    rw [List.mem_filter] at hn
    exact ⟨n, hn.1, rfl, by simpa using hn.2⟩
  · rintro ⟨n, hn, rfl, h0⟩
    exact ⟨n, List.mem_filter.2 ⟨hn, by simpa using h0⟩, rfl⟩
theorem atL_cases {t : List NodeD} {x : Int} : (atL t x = -1 ∧ x ∉ panesL t) ∨ ∃ i, ∃ h : i < t.length, atL t x = (i : Int) ∧ t[i].Pane = x ∧ x ≠ 0 ∧ x ∉ panesL (t.take i) := by
  unfold atL
  rcases findI_cases (p := fun n : NodeD => !decide (n.Pane = 0) && decide (n.Pane = x)) (xs := t) with ⟨h1, h2⟩ | ⟨i, hi, h1, h2, h3⟩
  · refine Or.inl ⟨h1, fun hx => ?_⟩
    obtain ⟨n, hn, e, h0⟩ := mem_panes.1 hx
    have := h2 n hn
    simp [e, h0] at this
  · simp only [Bool.and_eq_true, Bool.not_eq_true', decide_eq_false_iff_not, decide_eq_true_eq] at h2
    refine Or.inr ⟨i, hi, h1, h2.2, h2.2 ▸ h2.1, fun hx => ?_⟩
    obtain ⟨n, hn, e, h0⟩ := mem_panes.1 hx
    obtain ⟨j, hj, rfl⟩ := List.mem_iff_getElem.1 hn
    rw [List.length_take] at hj
    have := h3 j (by omega)
    rw [List.getElem_take] at e
    simp [e, h0] at this
theorem atL_take_lt {t : List NodeD} {x : Int} {m : Nat} (h : x ∈ panesL (t.take m)) : atL t x < m ∧ 0 ≤ atL t x := by
  rcases atL_cases (t := t) (x := x) with ⟨_, h2⟩ | ⟨i, hi, h1, _, _, h3⟩
  · obtain ⟨n, hn, e⟩ := mem_panes.1 h
    exact absurd (mem_panes.2 ⟨n, List.mem_of_mem_take hn, e⟩) h2
  · refine ⟨?_, by omega⟩
    rcases Nat.lt_or_ge i m with hm | hm
    · omega
    · exfalso
      obtain ⟨n, hn, e⟩ := mem_panes.1 h
      refine h3 (mem_panes.2 ⟨n, ?_, e⟩)
      have : t.take m = (t.take i).take m := by rw [List.take_take, Nat.min_eq_left hm]
      rw [this] at hn
      exact List.mem_of_mem_take hn
theorem atL_ge {t : List NodeD} {x : Int} {m : Nat} (hnd : (panesL t).Nodup) (h : x ∈ panesL (t.drop m)) : (m : Int) ≤ atL t x := by
  rcases atL_cases (t := t) (x := x) with ⟨_, h2⟩ | ⟨i, hi, h1, he, h0, h3⟩
  · obtain ⟨n, hn, e⟩ := mem_panes.1 h
    exact absurd (mem_panes.2 ⟨n, List.mem_of_mem_drop hn, e⟩) h2
  · rcases Nat.lt_or_ge i m with hm | hm
    · exfalso
      have hx : x ∈ panesL (t.take m) := by
        refine mem_panes.2 ⟨t[i], ?_, he, h0⟩
        have e2 : (t.take m)[i]'(by rw [List.length_take]; omega) = t[i] := List.getElem_take
        rw [← e2]
        exact List.getElem_mem _
      rw [← List.take_append_drop m t, panesL_append, List.nodup_append] at hnd
      exact hnd.2.2 _ hx _ h rfl
    · omega
def selR (t : List NodeD) (k : Nat) (q : RectD) : Bool := !(decide (atS t q.Pane ≤ k) || decide (sEnd t k ≤ atS t q.Pane))
def fromR (down : Bool) (q : RectD) : Int := if down = true then q.Y else q.X
def toR (down : Bool) (q : RectD) : Int := if down = true then q.Y + q.H else q.X + q.W
def sizeL (t : List NodeD) (k : Nat) (w h : Int) : Int := hiI (selR t k) (toR (gat encNode t k).Down) (placesL t w h) - loI (selR t k) (fromR (gat encNode t k).Down) (placesL t w h)
def sideR (down : Bool) (q : RectD) : Int := if down = true then q.H else q.W
theorem size_eq {t : List NodeD} {w h : Int} {k : Nat} (hp : placesOk t w h = true) (hk : k < t.length) (hs : isSplit t k = true) : sizeL t k w h = sideR (gat encNode t k).Down (gat encRect (areasL t w h) k) ∧ k < (areasL t w h).length ∧ 3 ≤ sideR (gat encNode t k).Down (gat encRect (areasL t w h) k) := by
  have hp' := hp
  simp only [placesOk, Bool.and_eq_true] at hp'
  have hso := hp'.1
  simp only [sidesOk, Bool.and_eq_true, within_iff] at hso
  have hto := hso.1.1
  obtain ⟨_, hfl, hsh⟩ := theT_at hto
  have hnd := treeOk_nodup hto
  obtain ⟨S, R, A, B, rest, g1, g2, g3, g4, g5, g6, g7, g8, g9, g10, g11⟩ := put_sub hsh (firsts_of hto) (r := ⟨0, 0, 0, w, h⟩) hso.1.2.1 hso.2.1 hp'.2 k (by rw [hfl]; exact hk)
  rw [hfl] at g1 g10
  have hat : At t k S := ⟨g2, fun n hn => by
    obtain ⟨_, ⟨T, hT, ho, hf⟩, _⟩ := treeOk_iff.1 hto
    have : n ∈ t.drop k := by rw [g1]; exact List.mem_append_left _ hn
    exact ho n (List.mem_of_mem_drop this), rest, g1⟩
  have hend := hat.sEnd
  have hle := hat.le
  have ear : areasL t w h = (putL (theT t) ⟨0, 0, 0, w, h⟩).1 := by rw [areasL, if_pos hp'.1]
  have epl : placesL t w h = A ++ (placeS S R).1 ++ B := by rw [placesL, if_pos hp, g9]
  have hlen := putL_full hsh hp'.2
  rw [hfl] at hlen
  have hdr : t.drop (k + S.flat.length) = rest := by rw [← List.drop_drop, g1, List.drop_left]
  have htk : t.take (k + S.flat.length) = t.take k ++ S.flat := by
    rw [List.take_add, g1, List.take_left]
  have hA : ∀ q, q ∈ A → selR t k q = false := by
    intro q hq
    have h1 : q.Pane ∈ panesL (t.take k) := by rw [← g10]; exact List.mem_map_of_mem hq
    have h2 := (atL_take_lt h1).1
    rw [selR, atS_eq hto]
    simp; omega
  have hB : ∀ q, q ∈ B → selR t k q = false := by
    intro q hq
    have h1 : q.Pane ∈ panesL (t.drop (k + S.flat.length)) := by rw [hdr, ← g11]; exact List.mem_map_of_mem hq
    have h2 := atL_ge hnd h1
    rw [selR, atS_eq hto, hend]
    simp; omega
  have hM : ∀ q, q ∈ (placeS S R).1 → selR t k q = true := by
    intro q hq
    have h1 : q.Pane ∈ panesL S.flat := by rw [← placeS_panes g2 g6]; exact List.mem_map_of_mem hq
    have h2 : q.Pane ∈ panesL (t.drop k) := by rw [g1, panesL_append]; exact List.mem_append_left _ h1
    have h3 : q.Pane ∈ panesL (t.take (k + S.flat.length)) := by rw [htk, panesL_append]; exact List.mem_append_right _ h1
    have h4 := atL_ge hnd h2
    have h5 := (atL_take_lt h3).1
    have h6 : atL t q.Pane ≠ k := by
      intro e
      rcases atL_cases (t := t) (x := q.Pane) with ⟨e1, _⟩ | ⟨i, hi, e1, e2, e3, _⟩
      · omega
      · obtain rfl : i = k := by omega
        have e4 := gat_get (F := encNode) hi
        rw [List.getElem?_eq_getElem hi] at e4
        rw [isSplit, ← Option.some.inj e4, e2] at hs
        simp [e3] at hs
    rw [selR, atS_eq hto, hend]
    simp; omega
  obtain ⟨⟨q1, m1, e1⟩, ⟨q2, m2, e2⟩, ⟨q3, m3, e3⟩, ⟨q4, m4, e4⟩⟩ := place_edges g2 g3 g4 g5 g6
  have inn : ∀ q, q ∈ (placeS S R).1 → q ∈ placesL t w h := fun q hq => by rw [epl]; exact List.mem_append_left _ (List.mem_append_right _ hq)
  have hsel : ∀ q, q ∈ placesL t w h → selR t k q = true → Within q R := by
    intro q hq hse
    rw [epl] at hq
    rcases List.mem_append.1 hq with hq | hq
    · rcases List.mem_append.1 hq with hq | hq
      · rw [hA q hq] at hse; cases hse
      · exact placeS_within g2 g3 g4 g5 q hq
    · rw [hB q hq] at hse; cases hse
  have b1 := placesL_within q1 (inn q1 m1)
  have b2 := placesL_within q2 (inn q2 m2)
  have b3 := placesL_within q3 (inn q3 m3)
  have b4 := placesL_within q4 (inn q4 m4)
  have c1 := b1.1.x1; have c2 := b2.1.x0; have c3 := b3.1.y1; have c4 := b4.1.y0
  have c5 := b1.1.w1; have c6 := b2.1.w1; have c7 := b3.1.h1; have c8 := b4.1.h1
  simp only at c1 c2 c3 c4
  obtain ⟨n, a, b, rfl⟩ := hat.of_split hs
  have hnk := hat.parts.1
  have h3 : 3 ≤ sizeR n R := by
    simp only [placeS] at g6
    split at g6
    · assumption
    · simp at g6
  refine ⟨?_, by rw [ear, hlen]; exact hk, ?_⟩
  · unfold sizeL sideR
    rw [ear]
    cases hd : (gat encNode t k).Down with
    | true =>
      rw [lo_eq (v := R.Y) (by omega) (fun q hq hse => by have := (hsel q hq hse).y0; simp only [fromR, if_true]; omega) ⟨q3, inn q3 m3, hM q3 m3, by simp only [fromR, if_true]; exact e3⟩,
        hi_eq (v := R.Y + R.H) (by omega) (fun q hq hse => by have := (hsel q hq hse).y1; simp only [toR, if_true]; omega) ⟨q4, inn q4 m4, hM q4 m4, by simp only [toR, if_true]; exact e4⟩]
      simp only [if_true, g8]; omega
    | false =>
      rw [lo_eq (v := R.X) (by omega) (fun q hq hse => by have := (hsel q hq hse).x0; simp only [fromR]; simp; omega) ⟨q1, inn q1 m1, hM q1 m1, by simp only [fromR]; simpa using e1⟩,
        hi_eq (v := R.X + R.W) (by omega) (fun q hq hse => by have := (hsel q hq hse).x1; simp only [toR]; simp; omega) ⟨q2, inn q2 m2, hM q2 m2, by simp only [toR]; simpa using e2⟩]
      simp [g7]; omega
  · rw [ear, hnk]
    unfold sideR sizeR at *
    rw [g7, g8]
    exact h3
/-- A part ends within the part that it lies in. -/
theorem end_nested {t : List NodeD} {T : Tr} (hv : Valid t T) {i u : Nat} (hi : i < u) (hu : (u : Int) < endI t i) : endI t u ≤ endI t i := by
  have hul : u < t.length := by
    rcases endI_range (t := t) (at_ := (i : Int)) with h | h
    · omega
    · omega
  obtain ⟨S, hS⟩ := hv.at_ (show i < t.length by omega)
  have e := hS.endI
  obtain ⟨r, hr⟩ := hS.drop
  obtain ⟨S', r', hS', hm, hd⟩ := sub_at (i := u - i) hS.shaped (by omega)
  have hat : At t u S' := ⟨hS', fun n hn => hS.ok n (hm n hn), r' ++ r, by
    have : t.drop u = (t.drop i).drop (u - i) := by rw [List.drop_drop]; congr 1; omega
    rw [this, hr, List.drop_append_of_le_length (by omega), hd, List.append_assoc]⟩
  have e' := hat.endI
  have hl := congrArg List.length hd
  rw [List.length_drop, List.length_append] at hl
  omega
theorem lastI_congr {p q : Nat → Bool} : ∀ {k : Nat}, (∀ i, i < k → p i = q i) → lastI p k = lastI q k
  | 0, _ => rfl
  | k + 1, h => by
    rw [lastI, lastI, h k (by omega), lastI_congr fun i hi => h i (by omega)]
theorem lastI_skip {p : Nat → Bool} {u : Nat} : ∀ {k : Nat}, u < k → (∀ i, u < i → i < k → p i = false) → lastI p k = if p u = true then (u : Int) else lastI p u
  | 0, h, _ => absurd h (by omega)
  | k + 1, h, hn => by
    rw [lastI]
    rcases Nat.lt_or_ge u k with hk | hk
    · rw [hn k hk (by omega)]
      simp only [Bool.false_eq_true, if_false]
      exact lastI_skip hk fun i h1 h2 => hn i h1 (by omega)
    · obtain rfl : u = k := by omega
      rfl
theorem lastI_none {p : Nat → Bool} : ∀ {k : Nat}, (∀ i, i < k → p i = false) → lastI p k = -1
  | 0, _ => rfl
  | k + 1, h => by
    rw [lastI, h k (by omega)]
    simp only [Bool.false_eq_true, if_false]
    exact lastI_none fun i hi => h i (by omega)
def overD (t : List NodeD) (down : Bool) (k i : Nat) : Bool := isOver t k i && decide ((gat encNode t i).Down = down)
/-- The last split of a direction over a place. -/
def growUp (t : List NodeD) (down : Bool) (k : Nat) : Int := lastI (overD t down k) k
theorem grow_chain {t : List NodeD} {T : Tr} (hv : Valid t T) {down : Bool} {k : Nat} (hk : k < t.length) :
    (lastI (isUp t k) k = -1 ∧ growUp t down k = -1) ∨ ∃ u : Nat, lastI (isUp t k) k = (u : Int) ∧ u < k ∧ growUp t down k = if (gat encNode t u).Down = down then (u : Int) else growUp t down u := by
  rw [← over_up hv hk]
  rcases lastI_cases (isOver t k) k with ⟨h1, h2⟩ | ⟨u, h1, hu, h2, h3⟩
  · refine Or.inl ⟨h1, lastI_none fun i hi => ?_⟩
    rw [overD, h2 i hi, Bool.false_and]
  · refine Or.inr ⟨u, h1, hu, ?_⟩
    unfold growUp
    rw [lastI_skip hu (fun i hi hik => by rw [overD, h3 i hi hik, Bool.false_and])]
    rw [overD, h2, Bool.true_and]
    by_cases hd : (gat encNode t u).Down = down
    · simp [hd]
    · simp only [hd, decide_false, Bool.false_eq_true, if_false]
      refine lastI_congr fun i hi => ?_
      unfold overD
      congr 1
      have huk : (k : Int) < endI t u := by
        simp only [isOver, Bool.and_eq_true, decide_eq_true_eq] at h2
        exact h2.2
      unfold isOver
      congr 1
      rw [Bool.eq_iff_iff, decide_eq_true_eq, decide_eq_true_eq]
      constructor
      · intro h; omega
      · intro h
        have := end_nested hv hi (by omega)
        omega
theorem placeAt_iff {t : List NodeD} {w h p : Int} : 0 ≤ placeAt t w h p ↔ placesOk t w h = true ∧ 0 ≤ atL t p := by
  constructor
  · intro h0
    exact ⟨(placeAt_some h0).1, (placeAt_at h0).2⟩
  · rintro ⟨hp, ha⟩
    have hx : p ∈ panesL t := by
      rcases atL_cases (t := t) (x := p) with ⟨e, _⟩ | ⟨i, hi, e, h1, h2, _⟩
      · omega
      · exact mem_panes.2 ⟨t[i], List.getElem_mem hi, h1, h2⟩
    have hp' := hp
    simp only [placesOk, sidesOk, Bool.and_eq_true] at hp'
    have e := placeS_panes (T := theT t) (r := ⟨0, 0, 0, w, h⟩) (theT_at hp'.1.1.1).2.2 hp'.2
    rw [(theT_at hp'.1.1.1).2.1] at e
    have e2 : placesL t w h = (placeS (theT t) ⟨0, 0, 0, w, h⟩).1 := by rw [placesL, if_pos hp]
    rw [← e, ← e2] at hx
    obtain ⟨q, hq, he⟩ := List.mem_map.1 hx
    unfold placeAt
    rcases findI_cases (p := fun r : RectD => decide (r.Pane = p)) (xs := placesL t w h) with ⟨_, h2⟩ | ⟨i, _, h1, _⟩
    · have := h2 q hq
      simp [he] at this
    · rw [h1]; omega
end Go.Proofs.Ytghcicggamkjgaa
