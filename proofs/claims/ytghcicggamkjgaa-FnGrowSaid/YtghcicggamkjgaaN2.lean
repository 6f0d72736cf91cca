/-
  Plain laws: when a tree is valid, as both programs ask it.
-/
import Derived.Test.YtghcicggamkjgaaN1
namespace Go.Proofs.Ytghcicggamkjgaa
open Go Go.RowKit
set_option linter.unusedVariables false
set_option linter.unusedSimpArgs false

def panesL (t : List NodeD) : List Int := (t.filter fun n => decide (n.Pane ≠ 0)).map (·.Pane)
def treeOk (t : List NodeD) : Bool := decide (t.length ≤ 31) && decide (endI t 0 = t.length) && decide (panesL t).Nodup
/-- A tree laid out, each of its nodes valid. -/
def Valid (t : List NodeD) (T : Tr) : Prop := T.shaped ∧ (∀ n, n ∈ t → nodeOk n = true) ∧ T.flat = t
theorem panesL_take {t : List NodeD} {i : Nat} (h : i < t.length) : panesL (t.take (i + 1)) = panesL (t.take i) ++ (if (gat encNode t i).Pane ≠ 0 then [(gat encNode t i).Pane] else []) := by
  unfold panesL
  rw [List.take_add_one, gat_get (F := encNode) h, List.filter_append, List.map_append]
  congr 1
  by_cases h : (gat encNode t i).Pane = 0 <;> simp [h]
theorem endI_zero {t : List NodeD} : endI t 0 = t.length ↔ ∃ T, Valid t T := by
  constructor
  · intro h
    by_cases h0 : 0 < t.length
    · rw [endI, if_pos ⟨by omega, by omega⟩] at h
      cases e : skipF nodeOk t.length (t.drop (0 : Int).toNat) with
      | none => rw [e] at h; simp only [endOfL] at h; omega
      | some r =>
        rw [e] at h
        obtain ⟨T, hT, ho, hl⟩ := skipF_some e
        simp only [endOfL] at h
        have : r = [] := List.eq_nil_of_length_eq_zero (by omega)
        subst this
        simp at hl
        exact ⟨T, hT, by rw [hl]; exact ho, hl.symm⟩
    · rw [endI_out (by omega)] at h
      omega
  · rintro ⟨T, hT, ho, rfl⟩
    have h0 := T.flat_pos
    have := skipF_flat (ok := nodeOk) (T := T) (k := T.flat.length) (r := []) hT ho (Nat.le_refl _)
    rw [endI, if_pos ⟨by omega, by omega⟩]
    simp only [Int.toNat_zero, List.drop_zero]
    rw [List.append_nil] at this
    rw [this]
    simp [endOfL]
theorem sEnd_zero {t : List NodeD} : sEnd t 0 = t.length ↔ ∃ T : Tr, T.shaped ∧ T.flat = t := by
  constructor
  · intro h
    rw [sEnd] at h
    cases e : needGo 1 (t.drop 0) with
    | none => rw [e] at h; simp only [endOfL] at h; omega
    | some r =>
      rw [e] at h
      obtain ⟨T, l', hT, hl, h1⟩ := needGo_some (k := 0) e
      rw [if_pos rfl] at h1
      subst h1
      simp only [endOfL] at h
      have : l' = [] := List.eq_nil_of_length_eq_zero (by omega)
      subst this
      simp at hl
      exact ⟨T, hT, hl.symm⟩
  · rintro ⟨T, hT, rfl⟩
    have := needGo_flat (T := T) (k := 0) (r := []) hT
    rw [if_pos rfl, List.append_nil] at this
    rw [sEnd, List.drop_zero]
    rw [show needGo 1 T.flat = some [] from this]
    simp [endOfL]
theorem treeOk_iff {t : List NodeD} : treeOk t = true ↔ t.length ≤ 31 ∧ (∃ T, Valid t T) ∧ (panesL t).Nodup := by
  simp only [treeOk, Bool.and_eq_true, decide_eq_true_eq, endI_zero, and_assoc]
theorem treeOk_mk {t : List NodeD} (h1 : t.length ≤ 31) (h2 : sEnd t 0 = t.length) (h3 : ∀ i, i < t.length → nodeOk (gat encNode t i) = true) (h4 : (panesL t).Nodup) : treeOk t = true := by
  obtain ⟨T, hT, hf⟩ := sEnd_zero.1 h2
  refine treeOk_iff.2 ⟨h1, ⟨T, hT, fun n hn => ?_, hf⟩, h4⟩
  obtain ⟨i, hi, rfl⟩ := List.mem_iff_getElem.1 hn
  have e := gat_get (F := encNode) hi
  rw [List.getElem?_eq_getElem hi] at e
  rw [Option.some.inj e]
  exact h3 i hi
theorem treeOk_len {t : List NodeD} (h : treeOk t = true) : t.length ≤ 31 := (treeOk_iff.1 h).1
theorem treeOk_sEnd {t : List NodeD} (h : treeOk t = true) : sEnd t 0 = t.length := by
  obtain ⟨_, ⟨T, hT, _, hf⟩, _⟩ := treeOk_iff.1 h
  exact sEnd_zero.2 ⟨T, hT, hf⟩
theorem treeOk_node {t : List NodeD} (h : treeOk t = true) {i : Nat} (hi : i < t.length) : nodeOk (gat encNode t i) = true := by
  obtain ⟨_, ⟨T, hT, ho, hf⟩, _⟩ := treeOk_iff.1 h
  exact ho _ (gat_mem hi)
theorem treeOk_nodup {t : List NodeD} (h : treeOk t = true) : (panesL t).Nodup := (treeOk_iff.1 h).2.2
theorem panesL_sub {t : List NodeD} {i : Nat} : (panesL (t.take i)).Sublist (panesL t) := by
  unfold panesL
  exact ((List.take_sublist i t).filter _).map _
theorem nodeOk_pane {n : NodeD} (h : nodeOk n = true) : 0 ≤ n.Pane ∧ n.Pane ≤ 1000000 ∧ 0 ≤ n.First ∧ n.First ≤ 120 := by
  unfold nodeOk leafOk isId at h
  split at h <;> simp [within] at h <;> omega
/-- Sorted numbers: all differ if and only if neighbours differ. -/
def adjNe (l : List Int) : Prop := ∀ i, i + 1 < l.length → iat l (i + 1) ≠ iat l i
theorem iat_getElem {l : List Int} {i : Nat} (h : i < l.length) : iat l i = l[i] := by
  have e := gat_get (F := encI) h
  rw [List.getElem?_eq_getElem h] at e
  exact (Option.some.inj e).symm
theorem sorted_adj {l : List Int} (hs : l.Pairwise (· ≤ ·)) : adjNe l ↔ l.Nodup := by
  rw [List.Nodup]
  constructor
  · intro h
    rw [List.pairwise_iff_getElem] at hs ⊢
    intro i j hi hj hij
    have h1 := h i (by omega)
    rw [iat_getElem (by omega), iat_getElem (by omega)] at h1
    have h2 := hs i (i + 1) (by omega) (by omega) (by omega)
    rcases Nat.lt_or_ge (i + 1) j with h3 | h3
    · have := hs (i + 1) j (by omega) hj h3
      omega
    · obtain rfl : j = i + 1 := by omega
      omega
  · intro h i hi
    rw [iat_getElem (by omega), iat_getElem (by omega)]
    have := List.pairwise_iff_getElem.1 h i (i + 1) (by omega) hi (by omega)
    exact fun e => this e.symm
def sortI (l : List Int) : List Int := l.mergeSort fun x y => decide (x ≤ y)
theorem sortI_perm (l : List Int) : (sortI l).Perm l := List.mergeSort_perm _ _
theorem sortI_len (l : List Int) : (sortI l).length = l.length := (sortI_perm l).length_eq
theorem sortI_sorted (l : List Int) : (sortI l).Pairwise (· ≤ ·) := by
  have := List.pairwise_mergeSort (le := fun x y : Int => decide (x ≤ y)) (fun a b c h1 h2 => by simp at *; omega) (fun a b => by simp; omega) l
  exact this.imp (fun h => by simpa using h)
theorem sortI_adj {l : List Int} : adjNe (sortI l) ↔ l.Nodup := (sorted_adj (sortI_sorted l)).trans (sortI_perm l).nodup_iff
def leavesL (t : List NodeD) : List Int := if treeOk t = true then panesL t else []
theorem panesL_len (t : List NodeD) : (panesL t).length ≤ t.length := by
  unfold panesL
  rw [List.length_map]
  exact List.length_filter_le _ _
theorem leavesL_len (t : List NodeD) : (leavesL t).length ≤ 31 := by
  unfold leavesL
  split
  · rename_i h
    have := treeOk_len h
    have := panesL_len t
    omega
  · simp
theorem has_not {l : List Int} {x : Int} (h : ∀ j, j < l.length → iat l j ≠ x) : x ∉ l := by
  intro hx
  obtain ⟨j, hj, rfl⟩ := List.mem_iff_getElem.1 hx
  exact h j hj (iat_getElem hj)
theorem nodup_snoc {l : List Int} {x : Int} (h : l.Nodup) (hx : x ∉ l) : (l ++ [x]).Nodup := by
  rw [List.nodup_append]
  refine ⟨h, by simp, fun a ha b hb => ?_⟩
  simp at hb
  subst hb
  exact fun e => hx (e ▸ ha)
def leafB (n : NodeD) : Bool := decide (1 ≤ n.Pane) && decide (n.Pane ≤ 1000000) && !n.Down && decide (n.First = 0)
def splitB (n : NodeD) : Bool := decide (n.Pane = 0) && decide (1 ≤ n.First) && decide (n.First ≤ 120)
theorem nodeOk_or (n : NodeD) : nodeOk n = (leafB n || splitB n) := by
  rw [Bool.eq_iff_iff]
  unfold nodeOk leafOk isId within leafB splitB
  by_cases h : n.Pane = 0
  · simp [h]
  · simp [h]
theorem leafB_ne {n : NodeD} (h : leafB n = true) : n.Pane ≠ 0 := by
  simp [leafB] at h; omega
theorem leafB_not {n : NodeD} (h : leafB n = false) (hn : nodeOk n = true) : n.Pane = 0 := by
  rw [nodeOk_or, h, Bool.false_or] at hn
  simp [splitB] at hn
  exact hn.1.1
theorem node_step {n : NodeD} {zs : List Int} (h : (!leafB n && !splitB n || leafB n && decide (n.Pane ∈ zs)) = false) : nodeOk n = true ∧ (leafB n = true → n.Pane ∉ zs) := by
  rw [nodeOk_or]
  cases h1 : leafB n <;> cases h2 : splitB n <;> simp_all
theorem node_bad {t : List NodeD} {i : Nat} (hi : i < t.length) (h : (!leafB (gat encNode t i) && !splitB (gat encNode t i) || leafB (gat encNode t i) && decide ((gat encNode t i).Pane ∈ panesL (t.take i))) = true) : treeOk t = false := by
  cases ht : treeOk t with
  | false => rfl
  | true =>
    exfalso
    have h1 := treeOk_node ht hi
    have h2 := (treeOk_nodup ht).sublist (panesL_sub (i := i + 1))
    rw [nodeOk_or] at h1
    cases hl : leafB (gat encNode t i) with
    | false => rw [hl, Bool.false_or] at h1; rw [hl, h1] at h; simp at h
    | true =>
      rw [hl] at h
      rw [panesL_take hi, if_pos (leafB_ne hl), List.nodup_append] at h2
      simp at h
      exact h2.2.2 _ h _ (by simp) rfl
theorem findI_lt {α : Type} {p : α → Bool} {xs : List α} : -1 ≤ findI p xs ∧ findI p xs < xs.length := by
  rcases findI_cases (p := p) (xs := xs) with ⟨h, _⟩ | ⟨i, hi, h, _⟩ <;> omega
theorem findI_congr {α : Type} {p q : α → Bool} {xs : List α} (h : ∀ x, x ∈ xs → p x = q x) : findI p xs = findI q xs := by
  have : xs.findIdx? p = xs.findIdx? q := by
    induction xs with
    | nil => rfl
    | cons x r ih =>
      rw [List.findIdx?_cons, List.findIdx?_cons, h x List.mem_cons_self, ih fun y hy => h y (List.mem_cons_of_mem _ hy)]
  rw [findI, findI, this]
/-- The pane after a pane. -/
def afterL (t : List NodeD) (p : Int) : Int :=
  if findI (fun z => decide (p = z)) (leavesL t) < 0 then 0 else iat (leavesL t) ((findI (fun z => decide (p = z)) (leavesL t) + 1) % (leavesL t).length).toNat
/-- Where the leaf of a pane is. -/
def atL (t : List NodeD) (p : Int) : Int := findI (fun n => !decide (n.Pane = 0) && decide (n.Pane = p)) t
def atS (t : List NodeD) (p : Int) : Int := findI (fun n => decide (n.Pane = p) && decide (0 < p)) t
theorem atS_eq {t : List NodeD} {p : Int} (h : treeOk t = true) : atS t p = atL t p := by
  obtain ⟨_, ⟨T, hT, ho, hf⟩, _⟩ := treeOk_iff.1 h
  refine findI_congr fun n hn => ?_
  have := nodeOk_pane (ho n hn)
  rw [Bool.eq_iff_iff]
  simp
  omega
theorem atL_lt (t : List NodeD) (p : Int) : -1 ≤ atL t p ∧ atL t p < t.length := findI_lt
theorem atS_lt (t : List NodeD) (p : Int) : -1 ≤ atS t p ∧ atS t p < t.length := findI_lt
def setPane (t : List NodeD) (i : Nat) (p : Int) : List NodeD := t.set i { gat encNode t i with Pane := p }
def swapOk (t : List NodeD) (a b : Int) : Bool := treeOk t && decide (0 ≤ atL t a) && decide (0 ≤ atL t b)
def swapL (t : List NodeD) (a b : Int) : List NodeD := if swapOk t a b = true then setPane (setPane t (atL t a).toNat b) (atL t b).toNat a else []
theorem swapL_len (t : List NodeD) (a b : Int) : (swapL t a b).length ≤ 31 := by
  unfold swapL
  split
  · rename_i h
    simp only [swapOk, Bool.and_eq_true] at h
    have := treeOk_len h.1.1
    simp [setPane]; omega
  · simp
end Go.Proofs.Ytghcicggamkjgaa
