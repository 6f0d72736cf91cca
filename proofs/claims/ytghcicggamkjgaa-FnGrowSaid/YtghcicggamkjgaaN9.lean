/-
  Plain laws: the size of a part of a tree; the splits around a place.
-/
import Derived.Test.YtghcicggamkjgaaN8
namespace Go.Proofs.Ytghcicggamkjgaa
open Go Go.RowKit
set_option linter.unusedVariables false
set_option linter.unusedSimpArgs false

theorem panesL_append (a b : List NodeD) : panesL (a ++ b) = panesL a ++ panesL b := by
  unfold panesL
  rw [List.filter_append, List.map_append]
theorem panesL_split {n : NodeD} {l : List NodeD} (h : n.Pane = 0) : panesL (n :: l) = panesL l := by
  simp [panesL, h]
theorem putL_full : ∀ {T : Tr} {r : RectD}, T.shaped → (placeS T r).2 = true → (putL T r).1.length = T.flat.length
  | .leaf n, r, _, _ => by simp [putL, Tr.flat]
  | .split n a b, r, h, hp => by
    obtain ⟨h0, h1, h2⟩ := h
    simp only [placeS] at hp
    split at hp
    · rename_i hs
      simp only [Bool.and_eq_true] at hp
      have e1 := putL_full h1 hp.1
      have e2 := putL_full h2 hp.2
      have e3 := (put_place (r := firstR n r) h1).1
      simp only [putL, if_pos hs, e3, hp.1, if_true, Tr.flat, List.length_cons, List.length_append, e1, e2]
    · simp at hp
theorem gat_cons_succ {x : RectD} {l : List RectD} {j : Nat} : gat encRect (x :: l) (j + 1) = gat encRect l j := rfl
theorem gat_append_left {l m : List RectD} {j : Nat} (h : j < l.length) : gat encRect (l ++ m) j = gat encRect l j := by
  unfold gat
  simp [List.getD_eq_getElem?_getD, List.getElem?_append_left h]
theorem gat_append_right {l m : List RectD} {j : Nat} (h : l.length ≤ j) : gat encRect (l ++ m) j = gat encRect m (j - l.length) := by
  unfold gat
  simp [List.getD_eq_getElem?_getD, List.getElem?_append_right h]
/-- What a place of a laid tree bears: its own tree, its area, and the leaves' areas in order. -/
theorem put_sub : ∀ {T : Tr} {r : RectD}, T.shaped → Firsts T → 1 ≤ r.W → 1 ≤ r.H → (placeS T r).2 = true → ∀ i, i < T.flat.length →
    ∃ (S : Tr) (R : RectD) (A B : List RectD) (rest : List NodeD), T.flat.drop i = S.flat ++ rest ∧ S.shaped ∧ Firsts S ∧ 1 ≤ R.W ∧ 1 ≤ R.H ∧ (placeS S R).2 = true ∧
      (gat encRect (putL T r).1 i).W = R.W ∧ (gat encRect (putL T r).1 i).H = R.H ∧ (placeS T r).1 = A ++ (placeS S R).1 ++ B ∧ A.map (·.Pane) = panesL (T.flat.take i) ∧ B.map (·.Pane) = panesL rest
  | .leaf n, r, h, hf, hw, hh, hp, i, hi => by
    have : i = 0 := by simp [Tr.flat] at hi; omega
    subst this
    exact ⟨.leaf n, r, [], [], [], by simp, h, hf, hw, hh, hp, rfl, rfl, by simp, rfl, rfl⟩
  | .split n a b, r, h, hf, hw, hh, hp, 0, hi => by
    refine ⟨.split n a b, r, [], [], [], by simp, h, hf, hw, hh, hp, ?_, ?_, by simp, rfl, rfl⟩ <;>
    · simp only [putL]
      (repeat' split) <;> rfl
  | .split n a b, r, h, hf, hw, hh, hp, j + 1, hi => by
    obtain ⟨h0, h1, h2⟩ := h
    have hn := hf n (by simp [Tr.flat]) h0
    have hfa : Firsts a := fun m hm => hf m (by simp [Tr.flat, hm])
    have hfb : Firsts b := fun m hm => hf m (by simp [Tr.flat, hm])
    have hp' := hp
    simp only [placeS] at hp
    split at hp
    · rename_i hs
      simp only [Bool.and_eq_true] at hp
      have w1 := within_first hw hh hn hs
      have w2 := within_second hw hh hn hs
      have e3 := (put_place (r := firstR n r) h1).1
      have la := putL_full h1 hp.1
      have lb := putL_full h2 hp.2
      have eput : (putL (.split n a b) r).1 = { r with Pane := n.Pane } :: ((putL a (firstR n r)).1 ++ (putL b (secondR n r)).1) := by
        simp only [putL, if_pos hs, e3, hp.1, if_true]
      have epl : (placeS (.split n a b) r).1 = (placeS a (firstR n r)).1 ++ (placeS b (secondR n r)).1 := by
        simp only [placeS, if_pos hs]
      simp only [Tr.flat, List.length_cons, List.length_append] at hi
      rw [eput, epl, gat_cons_succ]
      simp only [Tr.flat, List.drop_succ_cons, List.take_succ_cons]
      rw [panesL_split h0]
      rcases Nat.lt_or_ge j a.flat.length with hj | hj
      · obtain ⟨S, R, A, B, rest, g1, g2, g3, g4, g5, g6, g7, g8, g9, g10, g11⟩ := put_sub h1 hfa w1.w1 w1.h1 hp.1 j hj
        refine ⟨S, R, A, B ++ (placeS b (secondR n r)).1, rest ++ b.flat, ?_, g2, g3, g4, g5, g6, ?_, ?_, ?_, ?_, ?_⟩
        · rw [List.drop_append_of_le_length (by omega), g1, List.append_assoc]
        · rw [gat_append_left (by omega)]; exact g7
        · rw [gat_append_left (by omega)]; exact g8
        · rw [g9]; simp
        · rw [List.take_append_of_le_length (by omega)]; exact g10
        · rw [List.map_append, g11, placeS_panes h2 hp.2, panesL_append]
      · obtain ⟨S, R, A, B, rest, g1, g2, g3, g4, g5, g6, g7, g8, g9, g10, g11⟩ := put_sub h2 hfb w2.w1 w2.h1 hp.2 (j - a.flat.length) (by omega)
        refine ⟨S, R, (placeS a (firstR n r)).1 ++ A, B, rest, ?_, g2, g3, g4, g5, g6, ?_, ?_, ?_, ?_, g11⟩
        · rw [List.drop_append, List.drop_eq_nil_of_le (by omega), List.nil_append, g1]
        · rw [gat_append_right (by omega), la]; exact g7
        · rw [gat_append_right (by omega), la]; exact g8
        · rw [g9]; simp
        · rw [List.take_append, List.take_of_length_le (by omega), List.map_append, g10, placeS_panes h1 hp.1, panesL_append]
    · simp at hp
/-- The leaves' areas reach from edge to edge. -/
theorem place_edges : ∀ {T : Tr} {r : RectD}, T.shaped → Firsts T → 1 ≤ r.W → 1 ≤ r.H → (placeS T r).2 = true →
    (∃ q, q ∈ (placeS T r).1 ∧ q.X = r.X) ∧ (∃ q, q ∈ (placeS T r).1 ∧ q.X + q.W = r.X + r.W) ∧ (∃ q, q ∈ (placeS T r).1 ∧ q.Y = r.Y) ∧ (∃ q, q ∈ (placeS T r).1 ∧ q.Y + q.H = r.Y + r.H)
  | .leaf n, r, h, hf, hw, hh, hp => by simp [placeS]
  | .split n a b, r, h, hf, hw, hh, hp => by
    obtain ⟨h0, h1, h2⟩ := h
    have hn := hf n (by simp [Tr.flat]) h0
    have hfa : Firsts a := fun m hm => hf m (by simp [Tr.flat, hm])
    have hfb : Firsts b := fun m hm => hf m (by simp [Tr.flat, hm])
    simp only [placeS] at hp ⊢
    by_cases hs : 3 ≤ sizeR n r
    · simp only [if_pos hs, Bool.and_eq_true] at hp ⊢
      have w1 := within_first hw hh hn hs
      have w2 := within_second hw hh hn hs
      obtain ⟨⟨q1, m1, e1⟩, ⟨q2, m2, e2⟩, ⟨q3, m3, e3⟩, ⟨q4, m4, e4⟩⟩ := place_edges h1 hfa w1.w1 w1.h1 hp.1
      obtain ⟨⟨p1, l1, d1⟩, ⟨p2, l2, d2⟩, ⟨p3, l3, d3⟩, ⟨p4, l4, d4⟩⟩ := place_edges h2 hfb w2.w1 w2.h1 hp.2
      by_cases hd : n.Down = true
      · simp only [firstR, secondR, hd, if_true] at e1 e2 e3 e4 d1 d2 d3 d4 m1 m2 m3 m4 l1 l2 l3 l4 ⊢
        exact ⟨⟨q1, List.mem_append_left _ m1, e1⟩, ⟨q2, List.mem_append_left _ m2, e2⟩, ⟨q3, List.mem_append_left _ m3, e3⟩, ⟨p4, List.mem_append_right _ l4, by rw [d4]; omega⟩⟩
      · simp only [firstR, secondR, hd, if_false, Bool.false_eq_true] at e1 e2 e3 e4 d1 d2 d3 d4 m1 m2 m3 m4 l1 l2 l3 l4 ⊢
        exact ⟨⟨q1, List.mem_append_left _ m1, e1⟩, ⟨p2, List.mem_append_right _ l2, by rw [d2]; omega⟩, ⟨q3, List.mem_append_left _ m3, e3⟩, ⟨q4, List.mem_append_left _ m4, e4⟩⟩
    · simp [hs] at hp
/-- The least and the greatest edge of those that are chosen. -/
def loI (sel : RectD → Bool) (f : RectD → Int) (l : List RectD) : Int := l.foldl (fun m q => if sel q = true then min m (f q) else m) 1000
def hiI (sel : RectD → Bool) (f : RectD → Int) (l : List RectD) : Int := l.foldl (fun m q => if sel q = true then max m (f q) else m) 0
theorem lo_fold {sel : RectD → Bool} {f : RectD → Int} : ∀ (l : List RectD) (m : Int), (∀ q, q ∈ l → sel q = true → l.foldl (fun m q => if sel q = true then min m (f q) else m) m ≤ f q) ∧ l.foldl (fun m q => if sel q = true then min m (f q) else m) m ≤ m ∧
    (l.foldl (fun m q => if sel q = true then min m (f q) else m) m = m ∨ ∃ q, q ∈ l ∧ sel q = true ∧ l.foldl (fun m q => if sel q = true then min m (f q) else m) m = f q)
  | [], m => ⟨fun q hq => by simp at hq, Int.le_refl _, Or.inl rfl⟩
  | x :: r, m => by
    obtain ⟨h1, h2, h3⟩ := lo_fold (sel := sel) (f := f) r (if sel x = true then min m (f x) else m)
    simp only [List.foldl_cons]
    refine ⟨fun q hq hs => ?_, ?_, ?_⟩
    · rcases List.mem_cons.1 hq with rfl | hq
      · rw [if_pos hs] at h2 ⊢
        exact Int.le_trans h2 (Int.min_le_right _ _)
      · exact h1 q hq hs
    · refine Int.le_trans h2 ?_
      split <;> omega
    · rcases h3 with h3 | ⟨q, hq, hs, h3⟩
      · rw [h3]
        by_cases hx : sel x = true
        · rw [if_pos hx]
          rcases Int.le_total m (f x) with hm | hm
          · left; omega
          · right; exact ⟨x, List.mem_cons_self, hx, by omega⟩
        · rw [if_neg hx]; exact Or.inl rfl
      · exact Or.inr ⟨q, List.mem_cons_of_mem _ hq, hs, h3⟩
theorem hi_fold {sel : RectD → Bool} {f : RectD → Int} : ∀ (l : List RectD) (m : Int), (∀ q, q ∈ l → sel q = true → f q ≤ l.foldl (fun m q => if sel q = true then max m (f q) else m) m) ∧ m ≤ l.foldl (fun m q => if sel q = true then max m (f q) else m) m ∧
    (l.foldl (fun m q => if sel q = true then max m (f q) else m) m = m ∨ ∃ q, q ∈ l ∧ sel q = true ∧ l.foldl (fun m q => if sel q = true then max m (f q) else m) m = f q)
  | [], m => ⟨fun q hq => by simp at hq, Int.le_refl _, Or.inl rfl⟩
  | x :: r, m => by
    obtain ⟨h1, h2, h3⟩ := hi_fold (sel := sel) (f := f) r (if sel x = true then max m (f x) else m)
    simp only [List.foldl_cons]
    refine ⟨fun q hq hs => ?_, ?_, ?_⟩
    · rcases List.mem_cons.1 hq with rfl | hq
      · rw [if_pos hs] at h2 ⊢
        exact Int.le_trans (Int.le_max_right _ _) h2
      · exact h1 q hq hs
    · refine Int.le_trans ?_ h2
      split <;> omega
    · rcases h3 with h3 | ⟨q, hq, hs, h3⟩
      · rw [h3]
        by_cases hx : sel x = true
        · rw [if_pos hx]
          rcases Int.le_total m (f x) with hm | hm
          · right; exact ⟨x, List.mem_cons_self, hx, by omega⟩
          · left; omega
        · rw [if_neg hx]; exact Or.inl rfl
      · exact Or.inr ⟨q, List.mem_cons_of_mem _ hq, hs, h3⟩
theorem lo_eq {sel : RectD → Bool} {f : RectD → Int} {l : List RectD} {v : Int} (hv : v ≤ 1000) (h1 : ∀ q, q ∈ l → sel q = true → v ≤ f q) (h2 : ∃ q, q ∈ l ∧ sel q = true ∧ f q = v) : loI sel f l = v := by
  obtain ⟨a, b, c⟩ := lo_fold (sel := sel) (f := f) l 1000
  obtain ⟨q, hq, hs, he⟩ := h2
  have := a q hq hs
  unfold loI
  rcases c with c | ⟨q', hq', hs', c⟩
  · omega
  · have := h1 q' hq' hs'
    omega
theorem hi_eq {sel : RectD → Bool} {f : RectD → Int} {l : List RectD} {v : Int} (hv : 0 ≤ v) (h1 : ∀ q, q ∈ l → sel q = true → f q ≤ v) (h2 : ∃ q, q ∈ l ∧ sel q = true ∧ f q = v) : hiI sel f l = v := by
  obtain ⟨a, b, c⟩ := hi_fold (sel := sel) (f := f) l 0
  obtain ⟨q, hq, hs, he⟩ := h2
  have := a q hq hs
  unfold hiI
  rcases c with c | ⟨q', hq', hs', c⟩
  · omega
  · have := h1 q' hq' hs'
    omega
theorem lo_take {sel : RectD → Bool} {f : RectD → Int} {l : List RectD} {i : Nat} (h : i < l.length) : loI sel f (l.take (i + 1)) = if sel (gat encRect l i) = true then min (loI sel f (l.take i)) (f (gat encRect l i)) else loI sel f (l.take i) := by
  unfold loI
  rw [List.take_add_one, gat_get (F := encRect) h, List.foldl_append]
  rfl
theorem hi_take {sel : RectD → Bool} {f : RectD → Int} {l : List RectD} {i : Nat} (h : i < l.length) : hiI sel f (l.take (i + 1)) = if sel (gat encRect l i) = true then max (hiI sel f (l.take i)) (f (gat encRect l i)) else hiI sel f (l.take i) := by
  unfold hiI
  rw [List.take_add_one, gat_get (F := encRect) h, List.foldl_append]
  rfl
end Go.Proofs.Ytghcicggamkjgaa
