/-
  Plain laws: the places of a valid tree: where each part ends, which split is around a leaf.
-/
import Derived.Test.YtghcicggamkjgaaN2
namespace Go.Proofs.Ytghcicggamkjgaa
open Go Go.RowKit
set_option linter.unusedVariables false
set_option linter.unusedSimpArgs false

/-- At each place of a tree laid out there begins a tree. -/
theorem sub_at : ∀ {T : Tr} {i : Nat}, T.shaped → i < T.flat.length → ∃ (S : Tr) (r : List NodeD), S.shaped ∧ (∀ n, n ∈ S.flat → n ∈ T.flat) ∧ T.flat.drop i = S.flat ++ r
  | .leaf n, i, hs, hi => by
    have : i = 0 := by simp [Tr.flat] at hi; omega
    subst this
    exact ⟨.leaf n, [], hs, fun _ h => h, by simp⟩
  | .split n a b, 0, hs, hi => ⟨.split n a b, [], hs, fun _ h => h, by simp⟩
  | .split n a b, i + 1, hs, hi => by
    obtain ⟨h0, h1, h2⟩ := hs
    simp only [Tr.flat, List.length_cons, List.length_append] at hi
    simp only [Tr.flat, List.drop_succ_cons]
    rcases Nat.lt_or_ge i a.flat.length with h | h
    · obtain ⟨S, r, hS, hm, hd⟩ := sub_at h1 h
      refine ⟨S, r ++ b.flat, hS, fun n hn => by simp [hm n hn], ?_⟩
      rw [List.drop_append_of_le_length (by omega), hd, List.append_assoc]
    · obtain ⟨S, r, hS, hm, hd⟩ := sub_at h2 (show i - a.flat.length < b.flat.length by omega)
      refine ⟨S, r, hS, fun n hn => by simp [hm n hn], ?_⟩
      rw [List.drop_append, List.drop_eq_nil_of_le (by omega), List.nil_append, hd]
/-- The tree at a place of a valid tree. -/
structure At (t : List NodeD) (i : Nat) (S : Tr) : Prop where
  shaped : S.shaped
  ok : ∀ n, n ∈ S.flat → nodeOk n = true
  drop : ∃ r, t.drop i = S.flat ++ r
theorem Valid.at_ {t : List NodeD} {T : Tr} (h : Valid t T) {i : Nat} (hi : i < t.length) : ∃ S, At t i S := by
  obtain ⟨hT, ho, rfl⟩ := h
  obtain ⟨S, r, hS, hm, hd⟩ := sub_at hT hi
  exact ⟨S, hS, fun n hn => ho n (hm n hn), r, hd⟩
theorem At.le {t : List NodeD} {i : Nat} {S : Tr} (h : At t i S) : i + S.flat.length ≤ t.length := by
  obtain ⟨r, hr⟩ := h.drop
  have := congrArg List.length hr
  have h0 := S.flat_pos
  rw [List.length_drop, List.length_append] at this
  omega
theorem At.lt {t : List NodeD} {i : Nat} {S : Tr} (h : At t i S) : i < t.length := by
  have := h.le
  have := S.flat_pos
  omega
theorem At.endI {t : List NodeD} {i : Nat} {S : Tr} (h : At t i S) : endI t i = (i + S.flat.length : Nat) := by
  obtain ⟨r, hr⟩ := h.drop
  have h1 := h.le
  have h2 := h.lt
  have h3 := congrArg List.length hr
  rw [List.length_drop, List.length_append] at h3
  rw [Go.Proofs.Ytghcicggamkjgaa.endI, if_pos ⟨by omega, by omega⟩, Int.toNat_natCast, hr, skipF_flat h.shaped h.ok (by omega)]
  simp only [endOfL]
  omega
theorem At.sEnd {t : List NodeD} {i : Nat} {S : Tr} (h : At t i S) : sEnd t i = (i + S.flat.length : Nat) := by
  obtain ⟨r, hr⟩ := h.drop
  have h1 := h.le
  have h3 := congrArg List.length hr
  rw [List.length_drop, List.length_append] at h3
  have := needGo_flat (T := S) (k := 0) (r := r) h.shaped
  rw [if_pos rfl] at this
  rw [Go.Proofs.Ytghcicggamkjgaa.sEnd, hr, this]
  simp only [endOfL]
  omega
theorem At.head {t : List NodeD} {i : Nat} {S : Tr} (h : At t i S) : S.flat.head? = some (gat encNode t i) := by
  obtain ⟨r, hr⟩ := h.drop
  rw [nat_drop h.lt] at hr
  cases S with
  | leaf n => simp [Tr.flat] at hr ⊢; exact hr.1.symm
  | split n a b => simp [Tr.flat] at hr ⊢; exact hr.1.symm
/-- A split's parts. -/
theorem At.parts {t : List NodeD} {i : Nat} {n : NodeD} {a b : Tr} (h : At t i (.split n a b)) : gat encNode t i = n ∧ At t (i + 1) a ∧ At t (i + 1 + a.flat.length) b := by
  obtain ⟨h0, h1, h2⟩ := h.shaped
  obtain ⟨r, hr⟩ := h.drop
  have hh := h.head
  simp [Tr.flat] at hh
  have hd : t.drop (i + 1) = a.flat ++ (b.flat ++ r) := by
    rw [← List.drop_drop, hr]
    simp [Tr.flat]
  refine ⟨hh.symm, ⟨h1, fun m hm => h.ok m (by simp [Tr.flat, hm]), _, hd⟩, ⟨h2, fun m hm => h.ok m (by simp [Tr.flat, hm]), r, ?_⟩⟩
  rw [← List.drop_drop, hd, List.drop_left]
/-- The split's places are its own, its first part's, its second part's. -/
def isSplit (t : List NodeD) (i : Nat) : Bool := decide ((gat encNode t i).Pane = 0)
theorem At.of_split {t : List NodeD} {i : Nat} {S : Tr} (h : At t i S) (hp : isSplit t i = true) : ∃ n a b, S = .split n a b := by
  have hh := h.head
  cases S with
  | leaf n =>
    simp [Tr.flat] at hh
    have := h.shaped
    simp only [Tr.shaped] at this
    rw [isSplit, ← hh] at hp
    exact absurd (by simpa using hp) this
  | split n a b => exact ⟨n, a, b, rfl⟩
theorem At.of_leaf {t : List NodeD} {i : Nat} {S : Tr} (h : At t i S) (hp : isSplit t i = false) : S = .leaf (gat encNode t i) := by
  have hh := h.head
  cases S with
  | leaf n => simp [Tr.flat] at hh; rw [hh]
  | split n a b =>
    simp [Tr.flat] at hh
    have := h.shaped.1
    rw [isSplit, ← hh] at hp
    exact absurd this (by simpa using hp)
theorem isSplit_of {t : List NodeD} {i : Nat} {n : NodeD} {a b : Tr} (h : At t i (.split n a b)) : isSplit t i = true := by
  rw [isSplit, h.parts.1]
  simpa using h.shaped.1
/-- Is the place i a split over the place 'at'? -/
def isOver (t : List NodeD) (at_ i : Nat) : Bool := isSplit t i && decide (endI t i > at_)
/-- Is the place i a split whose part begins at 'at'? -/
def isUp (t : List NodeD) (at_ i : Nat) : Bool := isSplit t i && (decide (i + 1 = at_) || decide (sEnd t (i + 1) = at_))
theorem isUp_over {t : List NodeD} {T : Tr} (hv : Valid t T) {at_ i : Nat} (hi : i < at_) (ha : at_ < t.length) (h : isUp t at_ i = true) : isOver t at_ i = true := by
  obtain ⟨S, hS⟩ := hv.at_ (show i < t.length by omega)
  simp only [isUp, isOver, Bool.and_eq_true, Bool.or_eq_true, decide_eq_true_eq] at h ⊢
  obtain ⟨n, a, b, rfl⟩ := hS.of_split h.1
  obtain ⟨_, h1, h2⟩ := hS.parts
  have e1 := hS.endI
  have e2 := h1.sEnd
  have h3 := b.flat_pos
  have h4 := a.flat_pos
  simp only [Tr.flat, List.length_cons, List.length_append] at e1
  refine ⟨h.1, ?_⟩
  rcases h.2 with h | h <;> omega
/-- A split that is over a place without being its parent has a later one that is over it. -/
theorem over_next {t : List NodeD} {T : Tr} (hv : Valid t T) {at_ i : Nat} (hi : i < at_) (ha : at_ < t.length) (h : isOver t at_ i = true) (hu : isUp t at_ i = false) : ∃ j, i < j ∧ j < at_ ∧ isOver t at_ j = true := by
  obtain ⟨S, hS⟩ := hv.at_ (show i < t.length by omega)
  simp only [isOver, Bool.and_eq_true, decide_eq_true_eq] at h
  obtain ⟨n, a, b, rfl⟩ := hS.of_split h.1
  obtain ⟨_, h1, h2⟩ := hS.parts
  have e0 := hS.endI
  have e1 := h1.sEnd
  have e1' := h1.endI
  have e2' := h2.endI
  simp only [Tr.flat, List.length_cons, List.length_append] at e0
  have hu' : ¬ (i + 1 = at_) ∧ ¬ (sEnd t (i + 1) = (at_ : Int)) := by
    simp only [isUp, h.1, Bool.true_and, Bool.or_eq_false_iff, decide_eq_false_iff_not] at hu
    exact hu
  rcases Nat.lt_or_ge at_ (i + 1 + a.flat.length) with h3 | h3
  · refine ⟨i + 1, by omega, by omega, ?_⟩
    simp only [isOver, Bool.and_eq_true, decide_eq_true_eq]
    refine ⟨?_, by omega⟩
    cases es : isSplit t (i + 1) with
    | true => rfl
    | false =>
      have := h1.of_leaf es
      rw [this] at h3
      simp [Tr.flat] at h3
      omega
  · refine ⟨i + 1 + a.flat.length, by omega, by omega, ?_⟩
    simp only [isOver, Bool.and_eq_true, decide_eq_true_eq]
    refine ⟨?_, by omega⟩
    cases es : isSplit t (i + 1 + a.flat.length) with
    | true => rfl
    | false =>
      have := h2.of_leaf es
      rw [this] at e0
      simp [Tr.flat] at e0
      omega
/-- The last place before k that has a property; -1 where there is none. -/
def lastI (p : Nat → Bool) : Nat → Int
  | 0 => -1
  | k + 1 => if p k = true then (k : Int) else lastI p k
theorem lastI_cases (p : Nat → Bool) : ∀ k, (lastI p k = -1 ∧ ∀ j, j < k → p j = false) ∨ ∃ i : Nat, lastI p k = i ∧ i < k ∧ p i = true ∧ ∀ j, i < j → j < k → p j = false
  | 0 => Or.inl ⟨rfl, fun j h => absurd h (by omega)⟩
  | k + 1 => by
    rw [lastI]
    cases hp : p k with
    | true => exact Or.inr ⟨k, rfl, by omega, hp, fun j h1 h2 => absurd h1 (by omega)⟩
    | false =>
      simp only [Bool.false_eq_true, if_false]
      rcases lastI_cases p k with ⟨h1, h2⟩ | ⟨i, h1, h2, h3, h4⟩
      · refine Or.inl ⟨h1, fun j hj => ?_⟩
        rcases Nat.lt_or_ge j k with h | h
        · exact h2 j h
        · obtain rfl : j = k := by omega
          exact hp
      · refine Or.inr ⟨i, h1, by omega, h3, fun j hj hk => ?_⟩
        rcases Nat.lt_or_ge j k with h | h
        · exact h4 j hj h
        · obtain rfl : j = k := by omega
          exact hp
theorem lastI_eq {p q : Nat → Bool} {k : Nat} (h1 : ∀ j, j < k → q j = true → p j = true) (h2 : ∀ j, j < k → p j = true → q j = false → ∃ i, j < i ∧ i < k ∧ p i = true) : lastI p k = lastI q k := by
  rcases lastI_cases p k with ⟨e, hn⟩ | ⟨i, e, hi, hp, hl⟩
  · rcases lastI_cases q k with ⟨e', _⟩ | ⟨j, e', hj, hq, _⟩
    · rw [e, e']
    · have := h1 j hj hq
      rw [hn j hj] at this
      cases this
  · have hq : q i = true := by
      cases e' : q i with
      | true => rfl
      | false =>
        obtain ⟨j, hj1, hj2, hj3⟩ := h2 i hi hp e'
        rw [hl j hj1 hj2] at hj3
        cases hj3
    rcases lastI_cases q k with ⟨e', hn⟩ | ⟨j, e', hj, hq', hl'⟩
    · rw [hn i hi] at hq; cases hq
    · rw [e, e']
      congr 1
      rcases Nat.lt_trichotomy i j with h | h | h
      · have := h1 j hj hq'
        rw [hl j h hj] at this
        cases this
      · exact h
      · rw [hl' i h hi] at hq; cases hq
/-- The last split over a place is the split whose part begins there. -/
theorem over_up {t : List NodeD} {T : Tr} (hv : Valid t T) {at_ : Nat} (ha : at_ < t.length) : lastI (isOver t at_) at_ = lastI (isUp t at_) at_ :=
  lastI_eq (fun j hj h => isUp_over hv hj ha h) (fun j hj h hq => over_next hv hj ha h hq)
theorem over_root {t : List NodeD} {T : Tr} (hv : Valid t T) {at_ : Nat} (h1 : 0 < at_) (ha : at_ < t.length) : isOver t at_ 0 = true := by
  obtain ⟨S, hS⟩ := hv.at_ (show 0 < t.length by omega)
  have e : endI t 0 = t.length := endI_zero.2 ⟨T, hv⟩
  have e1 := hS.endI
  have e1' : endI t 0 = (0 + S.flat.length : Nat) := e1
  simp only [isOver, Bool.and_eq_true, decide_eq_true_eq]
  refine ⟨?_, by show endI t 0 > _; omega⟩
  cases es : isSplit t 0 with
  | true => rfl
  | false =>
    have := hS.of_leaf es
    rw [this] at e1'
    simp [Tr.flat] at e1'
    omega
theorem over_some {t : List NodeD} {T : Tr} (hv : Valid t T) {at_ : Nat} (h1 : 0 < at_) (ha : at_ < t.length) : ∃ i : Nat, lastI (isOver t at_) at_ = i ∧ i < at_ := by
  rcases lastI_cases (isOver t at_) at_ with ⟨_, h⟩ | ⟨i, h, hi, _⟩
  · have := over_root hv h1 ha
    rw [h 0 h1] at this
    cases this
  · exact ⟨i, h, hi⟩
end Go.Proofs.Ytghcicggamkjgaa
