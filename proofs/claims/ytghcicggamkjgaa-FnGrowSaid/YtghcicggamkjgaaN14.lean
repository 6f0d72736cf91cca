/-
  Plain laws: a split undone; a swap undone; going round; a border moved keeps the panes.
-/
import Derived.Test.YtghcicggamkjgaaN13
namespace Go.Proofs.Ytghcicggamkjgaa
open Go Go.RowKit
set_option linter.unusedVariables false
set_option linter.unusedSimpArgs false

/-- A part that was split off is cut again. -/
theorem split_cut {t : List NodeD} {p fresh : Int} {down : Bool} {w h : Int} (hk : splitOk t p fresh down w h = true) (hf : fresh ∉ panesL t) :
    cutOk (splitOut t p fresh down w h) fresh = true ∧ cutL (splitOut t p fresh down w h) fresh = t ∧ 0 ≤ placeAt (splitOut t p fresh down w h) w h fresh ∧ 1 ≤ (placeR (splitOut t p fresh down w h) w h fresh).H := by
  obtain ⟨hpo, A, n, B, e1, e2, e3, e4, e5, e6, e7⟩ := split_facts hk
  have hk' := hk
  simp only [splitOk, Bool.and_eq_true] at hk'
  have hto := hk'.2
  have hf0 := (split_fresh hto).2
  obtain ⟨S, hS⟩ : ∃ S, splitOut t p fresh down w h = S := ⟨_, rfl⟩
  rw [hS] at hpo hto e7
  rw [hS]
  let m : NodeD := ⟨0, down, (lenR t w h p down - 1) / 2⟩
  have hfA : fresh ∉ panesL (A ++ [m, n]) := by
    intro hx
    rw [panesL_append, List.mem_append] at hx
    rcases hx with hx | hx
    · exact hf (by rw [e1, panesL_append]; exact List.mem_append_left _ hx)
    · obtain ⟨q, hq, hqe, _⟩ := mem_panes.1 hx
      simp at hq
      rcases hq with rfl | rfl
      · exact hf0 hqe.symm
      · exact hf (by rw [e1, panesL_append]; refine List.mem_append_right _ (mem_panes.2 ⟨q, by simp, hqe, hf0⟩))
  have hSs : S = (A ++ [m, n]) ++ (⟨fresh, false, 0⟩ : NodeD) :: B := by rw [e7]; simp [m]
  have hat : atL S fresh = (A.length + 2 : Nat) := by
    rw [hSs, atL_app rfl hf0 hfA]; simp
  have hlenS : S.length = A.length + 3 + B.length := by rw [hSs]; simp; omega
  obtain ⟨_, ⟨T, hv⟩, _⟩ := treeOk_iff.1 hto
  have hgk : gat encNode S A.length = m := by
    have e := gat_get (F := encNode) (show A.length < S.length by omega)
    rw [show S[A.length]? = some m by rw [hSs]; simp] at e
    exact (Option.some.inj e).symm
  have hgk1 : gat encNode S (A.length + 1) = n := by
    have e := gat_get (F := encNode) (show A.length + 1 < S.length by omega)
    rw [show S[A.length + 1]? = some n by rw [hSs]; simp] at e
    exact (Option.some.inj e).symm
  have hsp : isSplit S A.length = true := by simp [isSplit, hgk, m]
  have hsp1 : isSplit S (A.length + 1) = false := by simp [isSplit, hgk1, e2, e3]
  obtain ⟨Q, hQ⟩ := hv.at_ (show A.length + 1 < S.length by omega)
  have hQl := hQ.of_leaf hsp1
  have hQe := hQ.sEnd
  rw [hQl] at hQe
  simp [Tr.flat] at hQe
  have hup : lastI (isUp S (A.length + 2)) (A.length + 2) = (A.length : Int) := by
    have h1 : isUp S (A.length + 2) (A.length + 1) = false := by simp [isUp, hsp1]
    have h2 : isUp S (A.length + 2) A.length = true := by
      simp only [isUp, hsp, Bool.true_and, Bool.or_eq_true, decide_eq_true_eq]
      right
      rw [hQe]; omega
    rw [lastI, h1, lastI, h2]
    simp
  have hco : cutOk S fresh = true := by
    simp only [cutOk, hto, Bool.true_and, decide_eq_true_eq]
    omega
  have hul : upL S fresh = A.length := by
    obtain ⟨k, u, c1, c2, c3, c4, c5, c6⟩ := cut_up hco
    obtain rfl : k = A.length + 2 := by omega
    rw [hup] at c3
    omega
  refine ⟨hco, ?_, ?_, ?_⟩
  · rw [cutL, if_pos hco, hul, hat, Int.toNat_natCast]
    have t1 : S.take A.length = A := by rw [hSs]; simp
    have t2 : (S.drop (A.length + 1)).take (A.length + 2 - (A.length + 1)) = [n] := by
      have : A.length + 2 - (A.length + 1) = 1 := by omega
      rw [this, hSs]
      have : ((A ++ [m, n]) ++ (⟨fresh, false, 0⟩ : NodeD) :: B) = (A ++ [m]) ++ (n :: ⟨fresh, false, 0⟩ :: B) := by simp
      rw [this, List.drop_left' (by simp)]
      rfl
    have t3 : S.drop (A.length + 2 + 1) = B := by
      rw [hSs]
      have : ((A ++ [m, n]) ++ (⟨fresh, false, 0⟩ : NodeD) :: B) = (A ++ [m, n, ⟨fresh, false, 0⟩]) ++ B := by simp
      rw [this, List.drop_left' (by simp)]
    rw [t1, t2, t3, e1]
    simp
  · exact placeAt_iff.2 ⟨hpo, by omega⟩
  · have h0 := placeAt_iff.2 ⟨hpo, show 0 ≤ atL S fresh by omega⟩
    unfold placeR
    rw [if_pos h0]
    have h1 := placeAt_lt S w h fresh
    have := (placesL_within _ (gat_mem (F := encRect) (show (placeAt S w h fresh).toNat < (placesL S w h).length by omega))).1.h1
    exact this
theorem getElem_gat {t : List NodeD} {i : Nat} (h : i < t.length) : t[i] = gat encNode t i := by
  have e := gat_get (F := encNode) h
  rw [List.getElem?_eq_getElem h] at e
  exact Option.some.inj e
theorem setPane_self {t : List NodeD} {i : Nat} : setPane t i (gat encNode t i).Pane = t := by
  unfold setPane
  by_cases h : i < t.length
  · have : ({ gat encNode t i with Pane := (gat encNode t i).Pane } : NodeD) = t[i] := by rw [getElem_gat h]
    rw [this, List.set_getElem_self]
  · exact List.set_eq_of_length_le (by omega)
theorem setPane_gat {t : List NodeD} {i j : Nat} {p : Int} (h : i < t.length) : (gat encNode (setPane t i p) j) = if j = i then { gat encNode t i with Pane := p } else gat encNode t j := by
  unfold setPane gat
  simp only [List.getD_eq_getElem?_getD]
  by_cases hj : j = i
  · subst hj
    rw [if_pos rfl, List.getElem?_set_self h]; rfl
  · rw [if_neg hj, List.getElem?_set_ne (Ne.symm hj)]
theorem atL_pane {t : List NodeD} {p : Int} (h : 0 ≤ atL t p) : (atL t p).toNat < t.length ∧ (gat encNode t (atL t p).toNat).Pane = p ∧ p ≠ 0 := by
  rcases atL_cases (t := t) (x := p) with ⟨e, _⟩ | ⟨i, hi, e, h2, h3, _⟩
  · omega
  · rw [e, Int.toNat_natCast]
    exact ⟨hi, by rw [← getElem_gat hi]; exact h2, h3⟩
theorem atL_inj {t : List NodeD} {p q : Int} (h : 0 ≤ atL t p) (hk : 0 ≤ atL t q) (he : atL t p = atL t q) : p = q := by
  have h1 := (atL_pane h).2.1
  have h2 := (atL_pane hk).2.1
  rw [← h1, ← h2, he]
end Go.Proofs.Ytghcicggamkjgaa
