/-
  Plain laws: trees made by splitting.
-/
import Derived.Test.YtghcicggamkjgaaN11
namespace Go.Proofs.Ytghcicggamkjgaa
open Go Go.RowKit
set_option linter.unusedVariables false
set_option linter.unusedSimpArgs false

/-- A tree with another one in the place of a pane's leaf. -/
def replT (p : Int) (N : Tr) : Tr → Tr
  | .leaf n => if n.Pane = p then N else .leaf n
  | .split n a b => .split n (replT p N a) (replT p N b)
theorem mem_panes0 {n : NodeD} {p : Int} (e : n.Pane = p) (h : n.Pane ≠ 0) : p ∈ panesL [n] := mem_panes.2 ⟨n, by simp, e, e ▸ h⟩
theorem repl_none : ∀ {T : Tr} {p : Int} {N : Tr}, T.shaped → p ∉ panesL T.flat → replT p N T = T
  | .leaf n, p, N, h, hp => by
    simp only [Tr.shaped] at h
    have : n.Pane ≠ p := fun e => hp (by rw [Tr.flat]; exact mem_panes0 e h)
    simp [replT, this]
  | .split n a b, p, N, h, hp => by
    obtain ⟨h0, h1, h2⟩ := h
    simp only [Tr.flat, panesL_split h0, panesL_append, List.mem_append, not_or] at hp
    simp only [replT, repl_none h1 hp.1, repl_none h2 hp.2]
theorem repl_shaped : ∀ {T : Tr} {p : Int} {N : Tr}, T.shaped → N.shaped → (replT p N T).shaped
  | .leaf n, p, N, h, hN => by
    simp only [replT]
    split
    · exact hN
    · exact h
  | .split n a b, p, N, h, hN => ⟨h.1, repl_shaped h.2.1 hN, repl_shaped h.2.2 hN⟩
/-- The leaf of a pane, and what is ahead of it and behind it. -/
theorem repl_flat : ∀ {T : Tr} {p : Int} {N : Tr}, T.shaped → (panesL T.flat).Nodup → p ∈ panesL T.flat →
    ∃ A n B, T.flat = A ++ n :: B ∧ n.Pane = p ∧ p ∉ panesL A ∧ p ∉ panesL B ∧ (replT p N T).flat = A ++ N.flat ++ B
  | .leaf n, p, N, h, hn, hp => by
    simp only [Tr.shaped] at h
    have hp' : n.Pane = p := by
      simp only [Tr.flat, panesL, List.filter_cons, List.filter_nil] at hp
      simp [h] at hp
      exact hp.symm
    exact ⟨[], n, [], by simp [Tr.flat], hp', by simp [panesL], by simp [panesL], by simp [replT, hp']⟩
  | .split n a b, p, N, h, hn, hp => by
    obtain ⟨h0, h1, h2⟩ := h
    simp only [Tr.flat, panesL_split h0, panesL_append] at hn hp
    rw [List.nodup_append] at hn
    rcases List.mem_append.1 hp with hp | hp
    · have hpb : p ∉ panesL b.flat := fun hb => hn.2.2 _ hp _ hb rfl
      obtain ⟨A, m, B, e1, e2, e3, e4, e5⟩ := repl_flat (N := N) h1 hn.1 hp
      refine ⟨n :: A, m, B ++ b.flat, by simp [Tr.flat, e1], e2, by rw [panesL_split h0]; exact e3, by rw [panesL_append, List.mem_append]; simp [e4, hpb], ?_⟩
      simp only [replT, Tr.flat, e5, repl_none h2 hpb]
      simp
    · have hpa : p ∉ panesL a.flat := fun ha => hn.2.2 _ ha _ hp rfl
      obtain ⟨A, m, B, e1, e2, e3, e4, e5⟩ := repl_flat (N := N) h2 hn.2.1 hp
      refine ⟨n :: (a.flat ++ A), m, B, by simp [Tr.flat, e1], e2, by rw [panesL_split h0, panesL_append, List.mem_append]; simp [e3, hpa], e4, ?_⟩
      simp only [replT, Tr.flat, e5, repl_none h1 hpa]
      simp
/-- Where the new part fits, all fits. -/
theorem repl_place : ∀ {T : Tr} {r : RectD} {p : Int} {N : Tr}, T.shaped → (panesL T.flat).Nodup → p ∈ panesL T.flat → (placeS T r).2 = true →
    ∃ q : RectD, { q with Pane := p } ∈ (placeS T r).1 ∧ ((placeS N q).2 = true → (placeS (replT p N T) r).2 = true)
  | .leaf n, r, p, N, h, hn, hp, hs => by
    simp only [Tr.shaped] at h
    have hp' : n.Pane = p := by
      simp only [Tr.flat, panesL, List.filter_cons, List.filter_nil] at hp
      simp [h] at hp
      exact hp.symm
    exact ⟨r, by simp [placeS, hp'], fun hN => by simpa [replT, hp'] using hN⟩
  | .split n a b, r, p, N, h, hn, hp, hs => by
    obtain ⟨h0, h1, h2⟩ := h
    simp only [Tr.flat, panesL_split h0, panesL_append] at hn hp
    rw [List.nodup_append] at hn
    simp only [placeS] at hs
    split at hs
    · rename_i h3
      simp only [Bool.and_eq_true] at hs
      rcases List.mem_append.1 hp with hp | hp
      · have hpb : p ∉ panesL b.flat := fun hb => hn.2.2 _ hp _ hb rfl
        obtain ⟨q, hq, hi⟩ := repl_place (N := N) h1 hn.1 hp hs.1
        refine ⟨q, by simp only [placeS, if_pos h3]; exact List.mem_append_left _ hq, fun hN => ?_⟩
        simp only [replT, placeS, if_pos h3, repl_none h2 hpb, hs.2, Bool.and_true]
        exact hi hN
      · have hpa : p ∉ panesL a.flat := fun ha => hn.2.2 _ ha _ hp rfl
        obtain ⟨q, hq, hi⟩ := repl_place (N := N) h2 hn.2.1 hp hs.2
        refine ⟨q, by simp only [placeS, if_pos h3]; exact List.mem_append_right _ hq, fun hN => ?_⟩
        simp only [replT, placeS, if_pos h3, repl_none h1 hpa, hs.1, Bool.true_and]
        exact hi hN
    · simp at hs
/-- Two areas of one pane are the same. -/
theorem place_unique {t : List NodeD} {w h p : Int} (hp : placesOk t w h = true) {q : RectD} (hq : q ∈ placesL t w h) (hqp : q.Pane = p) : placeR t w h p = q ∧ 0 ≤ placeAt t w h p := by
  have hp' := hp
  simp only [placesOk, sidesOk, Bool.and_eq_true] at hp'
  have e := placeS_panes (T := theT t) (r := ⟨0, 0, 0, w, h⟩) (theT_at hp'.1.1.1).2.2 hp'.2
  rw [(theT_at hp'.1.1.1).2.1] at e
  have e2 : placesL t w h = (placeS (theT t) ⟨0, 0, 0, w, h⟩).1 := by rw [placesL, if_pos hp]
  rw [← e2] at e
  have hnd := treeOk_nodup hp'.1.1.1
  rw [← e] at hnd
  unfold placeR placeAt
  rcases findI_cases (p := fun r : RectD => decide (r.Pane = p)) (xs := placesL t w h) with ⟨_, h2⟩ | ⟨i, hi, h1, h2, _⟩
  · have := h2 q hq
    simp [hqp] at this
  · rw [h1, if_pos (by omega)]
    refine ⟨?_, by omega⟩
    rw [Int.toNat_natCast]
    have e3 := gat_get (F := encRect) hi
    rw [List.getElem?_eq_getElem hi] at e3
    rw [← Option.some.inj e3]
    obtain ⟨j, hj, rfl⟩ := List.mem_iff_getElem.1 hq
    have h3 : (placesL t w h)[i].Pane = p := by simpa using h2
    have hij : i = j := by
      have hn := List.pairwise_iff_getElem.1 hnd
      rcases Nat.lt_trichotomy i j with hlt | heq | hgt
      · have := hn i j (by simpa using hi) (by simpa using hj) hlt
        simp [h3, hqp] at this
      · exact heq
      · have := hn j i (by simpa using hj) (by simpa using hi) hgt
        simp [h3, hqp] at this
    subst hij
    rfl
theorem atL_app {A B : List NodeD} {n : NodeD} {p : Int} (hn : n.Pane = p) (h0 : p ≠ 0) (hA : p ∉ panesL A) : atL (A ++ n :: B) p = A.length := by
  rcases atL_cases (t := A ++ n :: B) (x := p) with ⟨_, h2⟩ | ⟨i, hi, h1, h2, _, h4⟩
  · exact absurd (mem_panes.2 ⟨n, by simp, hn, h0⟩) h2
  · rw [h1]
    rcases Nat.lt_trichotomy i A.length with h | h | h
    · exfalso
      apply hA
      rw [List.getElem_append_left h] at h2
      exact mem_panes.2 ⟨A[i], List.getElem_mem h, h2, h0⟩
    · omega
    · exfalso
      apply h4
      refine mem_panes.2 ⟨n, ?_, hn, h0⟩
      rw [List.take_append, List.mem_append]
      right
      obtain ⟨k, hk⟩ : ∃ k, i - A.length = k + 1 := ⟨i - A.length - 1, by omega⟩
      rw [hk]; simp
/-- What a split leads to. -/
theorem split_facts {t : List NodeD} {p fresh : Int} {down : Bool} {w h : Int} (hk : splitOk t p fresh down w h = true) :
    placesOk (splitOut t p fresh down w h) w h = true ∧ (∃ A n B, t = A ++ n :: B ∧ n.Pane = p ∧ p ≠ 0 ∧ p ∉ panesL A ∧ atL t p = A.length ∧ n = ⟨p, false, 0⟩ ∧
      splitOut t p fresh down w h = A ++ [⟨0, down, (lenR t w h p down - 1) / 2⟩, n, ⟨fresh, false, 0⟩] ++ B) := by
  simp only [splitOk, Bool.and_eq_true, decide_eq_true_eq] at hk
  obtain ⟨⟨h0, h3⟩, hto⟩ := hk
  obtain ⟨hpo, hpm⟩ := placeAt_some h0
  have hp' := hpo
  simp only [placesOk, Bool.and_eq_true] at hp'
  have hso := hp'.1
  simp only [sidesOk, Bool.and_eq_true] at hso
  obtain ⟨_, hfl, hsh⟩ := theT_at hso.1.1
  have hnd := treeOk_nodup hso.1.1
  have hp0 : p ≠ 0 := (mem_panes.1 hpm).choose_spec.2.2
  obtain ⟨hid, hf0⟩ := split_fresh hto
  let N : Tr := .split ⟨0, down, (lenR t w h p down - 1) / 2⟩ (.leaf ⟨p, false, 0⟩) (.leaf ⟨fresh, false, 0⟩)
  have hN : N.shaped := ⟨rfl, hp0, hf0⟩
  obtain ⟨A, n, B, e1, e2, e3, e4, e5⟩ := repl_flat (N := N) hsh (by rw [hfl]; exact hnd) (by rw [hfl]; exact hpm)
  rw [hfl] at e1
  have hat : atL t p = A.length := by rw [e1]; exact atL_app e2 hp0 e3
  have hnn : n = ⟨p, false, 0⟩ := by
    obtain ⟨_, ⟨T, hT, ho, hf⟩, _⟩ := treeOk_iff.1 hso.1.1
    have := ho n (by rw [e1]; simp)
    rw [nodeOk, if_neg (by rw [e2]; exact hp0)] at this
    simp only [leafOk, Bool.and_eq_true, Bool.not_eq_true', decide_eq_true_eq] at this
    cases n
    simp_all
  have hg : gat encNode t A.length = n := by
    have hlt : A.length < t.length := by rw [e1]; simp
    have e := gat_get (F := encNode) hlt
    rw [← Option.some.inj (e.symm.trans (show t[A.length]? = some n by rw [e1]; simp))]
  have hout : splitOut t p fresh down w h = A ++ [⟨0, down, (lenR t w h p down - 1) / 2⟩, n, ⟨fresh, false, 0⟩] ++ B := by
    rw [splitOut, hat, Int.toNat_natCast, hg]
    have h1 : t.take A.length = A := by rw [e1]; simp
    have h2 : t.drop (A.length + 1) = B := by rw [e1]; simp
    rw [h1, h2]
  refine ⟨?_, A, n, B, e1, e2, hp0, e3, hat, hnn, hout⟩
  have hflat : (replT p N (theT t)).flat = splitOut t p fresh down w h := by
    rw [e5, hout, hnn]
    simp [N, Tr.flat]
  have hv : Valid (splitOut t p fresh down w h) (replT p N (theT t)) := by
    obtain ⟨_, ⟨T, hT, ho, hf⟩, _⟩ := treeOk_iff.1 hto
    exact ⟨repl_shaped hsh hN, ho, hflat⟩
  simp only [placesOk, sidesOk, Bool.and_eq_true]
  refine ⟨⟨⟨hto, hso.1.2⟩, hso.2⟩, ?_⟩
  rw [theT_eq hv]
  obtain ⟨q, hq, hi⟩ := repl_place (N := N) hsh (by rw [hfl]; exact hnd) (by rw [hfl]; exact hpm) hp'.2
  refine hi ?_
  have hu := (place_unique (p := p) hpo (q := { q with Pane := p }) (by rw [placesL, if_pos hpo]; exact hq) rfl).1
  have hlen : lenR t w h p down = sizeR ⟨0, down, (lenR t w h p down - 1) / 2⟩ q := by
    unfold lenR sizeR
    rw [hu]
  have : 3 ≤ sizeR ⟨0, down, (lenR t w h p down - 1) / 2⟩ q := by rw [← hlen]; exact h3
  simp only [N, placeS, if_pos this, Bool.and_self]
def Made (t : List NodeD) : Prop := placesOk t 24 12 = true ∧ ∀ x, x ∈ panesL t → 1 ≤ x ∧ x ≤ (panesL t).length
theorem Made.ok {t : List NodeD} (h : Made t) : treeOk t = true := by
  have := h.1
  simp only [placesOk, sidesOk, Bool.and_eq_true] at this
  exact this.1.1.1
theorem made_one : Made [⟨1, false, 0⟩] := ⟨by decide, by decide⟩
theorem panes_split_len {t : List NodeD} {p fresh : Int} {down : Bool} {w h : Int} (hk : splitOk t p fresh down w h = true) : (panesL (splitOut t p fresh down w h)).length = (panesL t).length + 1 ∧ ∀ x, x ∈ panesL (splitOut t p fresh down w h) → x ∈ panesL t ∨ x = fresh := by
  obtain ⟨_, A, n, B, e1, e2, e3, _, _, _, e4⟩ := split_facts hk
  simp only [splitOk, Bool.and_eq_true] at hk
  have hf := (split_fresh hk.2).2
  have hpn : panesL [(⟨0, down, (lenR t w h p down - 1) / 2⟩ : NodeD), n, ⟨fresh, false, 0⟩] = [p, fresh] := by
    simp [panesL, e2, e3, hf]
  rw [e4, panesL_append, panesL_append, hpn, e1, panesL_append]
  have hn : panesL (n :: B) = p :: panesL B := by simp [panesL, e2, e3]
  rw [hn]
  refine ⟨by simp; omega, fun x hx => ?_⟩
  simp only [List.mem_append, List.mem_cons, List.not_mem_nil, or_false] at hx ⊢
  grind
theorem Made.split {t : List NodeD} {p : Int} {down : Bool} (h : Made t) (hk : splitOk t p ((panesL t).length + 1) down 24 12 = true) : Made (splitOut t p ((panesL t).length + 1) down 24 12) ∧ (panesL (splitOut t p ((panesL t).length + 1) down 24 12)).length = (panesL t).length + 1 := by
  obtain ⟨h1, h2⟩ := panes_split_len hk
  refine ⟨⟨(split_facts hk).1, fun x hx => ?_⟩, h1⟩
  rw [h1]
  rcases h2 x hx with h3 | h3
  · have := h.2 x h3
    omega
  · subst h3
    omega
theorem panes_pos {t : List NodeD} (h : treeOk t = true) : 0 < (panesL t).length := by
  obtain ⟨_, ⟨T, hT, _, hf⟩, _⟩ := treeOk_iff.1 h
  have key : ∀ {T : Tr}, T.shaped → 0 < (panesL T.flat).length := by
    intro T
    induction T with
    | leaf n => intro hs; simp only [Tr.shaped] at hs; simp [panesL, Tr.flat, hs]
    | split n a b iha ihb =>
      intro hs
      obtain ⟨h0, h1, h2⟩ := hs
      rw [Tr.flat, panesL_split h0, panesL_append, List.length_append]
      have := iha h1
      omega
  rw [← hf]
  exact key hT
theorem leaves_ok {t : List NodeD} (h : treeOk t = true) : leavesL t = panesL t := by simp [leavesL, h]
theorem Made.next {t : List NodeD} {p : Int} {down : Bool} (h : Made t) (hk : splitOk t p (((leavesL t).length : Int) + 1) down 24 12 = true) : Made (splitL t p (((leavesL t).length : Int) + 1) down 24 12) ∧ (panesL (splitL t p (((leavesL t).length : Int) + 1) down 24 12)).length = (panesL t).length + 1 := by
  rw [leaves_ok h.ok] at hk ⊢
  rw [splitL, if_pos hk]
  exact h.split hk
end Go.Proofs.Ytghcicggamkjgaa
