/-
  Plain laws: trees of panes laid out as lists of nodes.
-/
import Derived.Test.YtghcicggamkjgaaM3
namespace Go.Proofs.Ytghcicggamkjgaa
open Go Go.RowKit
set_option linter.unusedVariables false
set_option linter.unusedSimpArgs false

def leafOk (n : NodeD) : Bool := isId n.Pane && !n.Down && decide (n.First = 0)
def nodeOk (n : NodeD) : Bool := if n.Pane = 0 then within n.First 1 120 else leafOk n
inductive Tr where
  | leaf (n : NodeD)
  | split (n : NodeD) (a b : Tr)
def Tr.flat : Tr → List NodeD
  | .leaf n => [n]
  | .split n a b => n :: (a.flat ++ b.flat)
/-- Leaves have a pane, splits have none. -/
def Tr.shaped : Tr → Prop
  | .leaf n => n.Pane ≠ 0
  | .split n a b => n.Pane = 0 ∧ a.shaped ∧ b.shaped
theorem Tr.flat_pos : ∀ (T : Tr), 0 < T.flat.length
  | .leaf n => by simp [flat]
  | .split n a b => by simp [flat]
/-- Passes over one tree; every node of it must be as asked. -/
def skipF (ok : NodeD → Bool) : Nat → List NodeD → Option (List NodeD)
  | 0, _ => none
  | _ + 1, [] => none
  | k + 1, n :: r => if ok n = false then none else if n.Pane ≠ 0 then some r else (skipF ok k r).bind (skipF ok k)
theorem skipF_flat {ok : NodeD → Bool} : ∀ {T : Tr} {k : Nat} {r : List NodeD}, T.shaped → (∀ n, n ∈ T.flat → ok n = true) → T.flat.length ≤ k → skipF ok k (T.flat ++ r) = some r
  | .leaf n, k, r, hs, ho, hk => by
    cases k with
    | zero => simp [Tr.flat] at hk
    | succ k =>
      have := ho n (by simp [Tr.flat])
      simp only [Tr.shaped] at hs
      simp [Tr.flat, skipF, this, hs]
  | .split n a b, k, r, hs, ho, hk => by
    cases k with
    | zero => simp [Tr.flat] at hk
    | succ k =>
      obtain ⟨h0, h1, h2⟩ := hs
      simp only [Tr.flat, List.length_cons, List.length_append] at hk
      have hn := ho n (by simp [Tr.flat])
      have ha := skipF_flat (T := a) (k := k) (r := b.flat ++ r) h1 (fun m hm => ho m (by simp [Tr.flat, hm])) (by omega)
      have hb := skipF_flat (T := b) (k := k) (r := r) h2 (fun m hm => ho m (by simp [Tr.flat, hm])) (by omega)
      simp only [Tr.flat, List.cons_append, List.append_assoc, skipF, hn, h0, ha, hb, Option.bind]
      simp
theorem skipF_some {ok : NodeD → Bool} : ∀ {k : Nat} {l r : List NodeD}, skipF ok k l = some r → ∃ T : Tr, T.shaped ∧ (∀ n, n ∈ T.flat → ok n = true) ∧ l = T.flat ++ r
  | 0, l, r, h => by simp [skipF] at h
  | k + 1, [], r, h => by simp [skipF] at h
  | k + 1, n :: l, r, h => by
    rw [skipF] at h
    split at h
    · cases h
    · rename_i ho
      have ho : ok n = true := by simpa using ho
      split at h
      · rename_i hp
        obtain rfl := Option.some.inj h
        exact ⟨.leaf n, hp, by simpa [Tr.flat] using ho, rfl⟩
      · rename_i hp
        have hp : n.Pane = 0 := by simpa using hp
        obtain ⟨m, h1, h2⟩ := Option.bind_eq_some_iff.1 h
        obtain ⟨a, ha, hao, rfl⟩ := skipF_some h1
        obtain ⟨b, hb, hbo, rfl⟩ := skipF_some h2
        refine ⟨.split n a b, ⟨hp, ha, hb⟩, ?_, by simp [Tr.flat]⟩
        intro m hm
        simp only [Tr.flat, List.mem_cons, List.mem_append] at hm
        rcases hm with rfl | hm | hm
        · exact ho
        · exact hao m hm
        · exact hbo m hm
/-- More room makes no difference. -/
theorem skipF_more {ok : NodeD → Bool} {k k' : Nat} {l : List NodeD} (h : l.length ≤ k) (h' : l.length ≤ k') : skipF ok k l = skipF ok k' l := by
  have key : ∀ {k k' : Nat} {r : List NodeD}, l.length ≤ k' → skipF ok k l = some r → skipF ok k' l = some r := by
    intro k k' r hk hr
    obtain ⟨T, hT, ho, rfl⟩ := skipF_some hr
    rw [List.length_append] at hk
    exact skipF_flat hT ho (by omega)
  cases e : skipF ok k l with
  | some r => exact (key h' e).symm
  | none =>
    cases e' : skipF ok k' l with
    | none => rfl
    | some r => rw [key h e'] at e; cases e
/-- .. by counting how many trees are still to come. -/
def needGo : Nat → List NodeD → Option (List NodeD)
  | _, [] => none
  | need, n :: r => if (if n.Pane = 0 then need + 1 else need - 1) = 0 then some r else needGo (if n.Pane = 0 then need + 1 else need - 1) r
theorem needGo_flat : ∀ {T : Tr} {k : Nat} {r : List NodeD}, T.shaped → needGo (k + 1) (T.flat ++ r) = if k = 0 then some r else needGo k r
  | .leaf n, k, r, hs => by
    simp only [Tr.shaped] at hs
    simp [Tr.flat, needGo, hs]
  | .split n a b, k, r, hs => by
    obtain ⟨h0, h1, h2⟩ := hs
    have ha := needGo_flat (T := a) (k := k + 1) (r := b.flat ++ r) h1
    have hb := needGo_flat (T := b) (k := k) (r := r) h2
    simp only [Tr.flat, List.cons_append, List.append_assoc, needGo, h0, if_true]
    rw [if_neg (by omega), ha, if_neg (by omega), hb]
theorem needGo_some : ∀ {l r : List NodeD} {k : Nat}, needGo (k + 1) l = some r → ∃ (T : Tr) (l' : List NodeD), T.shaped ∧ l = T.flat ++ l' ∧ (if k = 0 then l' = r else needGo k l' = some r)
  | [], r, k, h => by simp [needGo] at h
  | n :: l, r, k, h => by
    rw [needGo] at h
    by_cases hp : n.Pane = 0
    · simp only [if_pos hp] at h
      rw [if_neg (by omega)] at h
      obtain ⟨a, l1, ha, rfl, h1⟩ := needGo_some (k := k + 1) h
      rw [if_neg (by omega)] at h1
      have hl : l1.length < (n :: (a.flat ++ l1)).length := by simp; omega
      obtain ⟨b, l2, hb, rfl, h2⟩ := needGo_some (k := k) h1
      exact ⟨.split n a b, l2, ⟨hp, ha, hb⟩, by simp [Tr.flat], h2⟩
    · simp only [if_neg hp] at h
      refine ⟨.leaf n, l, hp, rfl, ?_⟩
      by_cases hk : k = 0
      · subst hk
        simp at h
        rw [if_pos rfl]; exact h
      · rw [if_neg hk]
        rw [Nat.add_sub_cancel, if_neg hk] at h
        exact h
termination_by l => l.length
/-- Where the tree that begins at a place ends; -1 where there is none. -/
def endOfL (t : List NodeD) (o : Option (List NodeD)) : Int := match o with | some r => (t.length : Int) - r.length | none => -1
def endI (t : List NodeD) (at_ : Int) : Int := if 0 ≤ at_ ∧ at_ < t.length then endOfL t (skipF nodeOk t.length (t.drop at_.toNat)) else -1
def sEnd (t : List NodeD) (at_ : Nat) : Int := endOfL t (needGo 1 (t.drop at_))
theorem nat_drop {t : List NodeD} {i : Nat} (h : i < t.length) : t.drop i = gat encNode t i :: t.drop (i + 1) := by
  rw [List.drop_eq_getElem_cons h]; congr 1; have := gat_get (F := encNode) h; rw [List.getElem?_eq_getElem h] at this; exact Option.some.inj this
theorem endI_out {t : List NodeD} {at_ : Int} (h : ¬ (0 ≤ at_ ∧ at_ < t.length)) : endI t at_ = -1 := if_neg h
theorem endI_leaf {t : List NodeD} {i : Nat} (h : i < t.length) (hp : (gat encNode t i).Pane ≠ 0) : endI t i = if leafOk (gat encNode t i) = true then (i : Int) + 1 else -1 := by
  rw [endI, if_pos ⟨by omega, by omega⟩, Int.toNat_natCast, nat_drop h]
  obtain ⟨k, hk⟩ : ∃ k, t.length = k + 1 := ⟨t.length - 1, by omega⟩
  rw [hk, skipF, nodeOk, if_neg hp]
  cases e : leafOk (gat encNode t i)
  · simp [endOfL]
  · simp [hp, endOfL]; omega
theorem endI_bad {t : List NodeD} {i : Nat} (h : i < t.length) (hp : (gat encNode t i).Pane = 0) (hf : within (gat encNode t i).First 1 120 = false) : endI t i = -1 := by
  rw [endI, if_pos ⟨by omega, by omega⟩, Int.toNat_natCast, nat_drop h]
  obtain ⟨k, hk⟩ : ∃ k, t.length = k + 1 := ⟨t.length - 1, by omega⟩
  rw [hk, skipF, nodeOk, if_pos hp, hf]
  simp [endOfL]
theorem endI_range {t : List NodeD} {at_ : Int} : endI t at_ = -1 ∨ at_ < endI t at_ ∧ endI t at_ ≤ t.length ∧ 0 ≤ at_ := by
  by_cases h : 0 ≤ at_ ∧ at_ < t.length
  · rw [endI, if_pos h]
    cases e : skipF nodeOk t.length (t.drop at_.toNat) with
    | none => exact Or.inl rfl
    | some r =>
      obtain ⟨T, hT, _, hl⟩ := skipF_some e
      have h1 := congrArg List.length hl
      have h2 := T.flat_pos
      rw [List.length_drop, List.length_append] at h1
      simp only [endOfL]
      exact Or.inr ⟨by omega, by omega, h.1⟩
  · exact Or.inl (endI_out h)
theorem endI_split {t : List NodeD} {i : Nat} (h : i < t.length) (hp : (gat encNode t i).Pane = 0) (hf : within (gat encNode t i).First 1 120 = true) : endI t i = endI t (endI t ((i : Int) + 1)) := by
  rw [endI, if_pos ⟨by omega, by omega⟩, Int.toNat_natCast, nat_drop h]
  obtain ⟨k, hk⟩ : ∃ k, t.length = k + 1 := ⟨t.length - 1, by omega⟩
  rw [hk, skipF, nodeOk, if_pos hp, hf]
  simp only [Bool.true_eq_false, if_false, ne_eq, hp, not_true_eq_false]
  have hd : (t.drop (i + 1)).length ≤ k := by rw [List.length_drop]; omega
  rw [skipF_more (k := k) (k' := t.length) hd (by rw [List.length_drop]; omega)]
  by_cases hi : i + 1 < t.length
  · have e1 : endI t ((i : Int) + 1) = endOfL t (skipF nodeOk t.length (t.drop (i + 1))) := by
      rw [endI, if_pos ⟨by omega, by omega⟩, show ((i : Int) + 1).toNat = i + 1 by omega]
    rw [e1]
    cases e : skipF nodeOk t.length (t.drop (i + 1)) with
    | none =>
      rw [endOfL, endI_out (by omega)]
      rfl
    | some r =>
      obtain ⟨T, hT, _, hl⟩ := skipF_some e
      have h1 := congrArg List.length hl
      have h2 := T.flat_pos
      rw [List.length_drop, List.length_append] at h1
      have hr : r = t.drop (t.length - r.length) := by
        have e2 : t.length - r.length = (i + 1) + T.flat.length := by omega
        rw [e2, ← List.drop_drop, hl, List.drop_left]
      simp only [Option.bind, endOfL]
      by_cases hr0 : r.length = 0
      · have : r = [] := List.eq_nil_of_length_eq_zero hr0
        subst this
        rw [endI_out (by simp)]
        obtain ⟨k', hk'⟩ : ∃ k', k = k' + 1 := ⟨k - 1, by omega⟩
        rw [hk', skipF]
      · rw [endI, if_pos ⟨by omega, by omega⟩, show ((t.length : Int) - r.length).toNat = t.length - r.length by omega, ← hr, skipF_more (k := k) (k' := t.length) (by omega) (by omega)]
        rfl
  · have e1 : endI t ((i : Int) + 1) = -1 := endI_out (by omega)
    rw [e1, endI_out (by omega), List.drop_eq_nil_of_le (by omega)]
    obtain ⟨k', hk'⟩ : ∃ k', t.length = k' + 1 := ⟨t.length - 1, by omega⟩
    rw [hk', skipF]
    rfl
end Go.Proofs.Ytghcicggamkjgaa
