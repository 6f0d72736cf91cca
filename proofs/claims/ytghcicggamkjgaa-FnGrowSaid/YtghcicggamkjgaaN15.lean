/-
  Plain laws: two panes changed twice; going round; what a moved border leaves.
-/
import Derived.Test.YtghcicggamkjgaaN14
namespace Go.Proofs.Ytghcicggamkjgaa
open Go Go.RowKit
set_option linter.unusedVariables false
set_option linter.unusedSimpArgs false

theorem needGo_like : ∀ {a b : List NodeD} {k : Nat}, a.length = b.length → (∀ i, i < a.length → ((gat encNode a i).Pane = 0 ↔ (gat encNode b i).Pane = 0)) → (needGo k a).map List.length = (needGo k b).map List.length
  | [], [], k, _, _ => by simp [needGo]
  | [], y :: b, k, hl, _ => by simp at hl
  | x :: a, [], k, hl, _ => by simp at hl
  | x :: a, y :: b, k, hl, h => by
    have h0 := h 0 (by simp)
    have hx : gat encNode (x :: a) 0 = x := rfl
    have hy : gat encNode (y :: b) 0 = y := rfl
    rw [hx, hy] at h0
    have ih : ∀ k, (needGo k a).map List.length = (needGo k b).map List.length := fun k => needGo_like (by simpa using hl) fun i hi => h (i + 1) (by simp; omega)
    rw [needGo, needGo]
    by_cases hz : x.Pane = 0
    · rw [if_pos hz, if_pos (h0.1 hz)]
      by_cases hk : k + 1 = 0
      · omega
      · rw [if_neg hk, if_neg hk]; exact ih _
    · rw [if_neg hz, if_neg (fun e => hz (h0.2 e))]
      by_cases hk : k - 1 = 0
      · rw [if_pos hk, if_pos hk]
        simp at hl ⊢
        exact hl
      · rw [if_neg hk, if_neg hk]; exact ih _
theorem sEnd_like {a b : List NodeD} (hl : a.length = b.length) (h : ∀ i, i < a.length → ((gat encNode a i).Pane = 0 ↔ (gat encNode b i).Pane = 0)) : sEnd a 0 = sEnd b 0 := by
  have := needGo_like (k := 1) hl h
  rw [sEnd, sEnd, List.drop_zero, List.drop_zero]
  cases e : needGo 1 a <;> cases e' : needGo 1 b <;> rw [e, e'] at this
  · rfl
  · simp at this
  · simp at this
  · simp only [Option.map_some, Option.some.injEq] at this
    simp only [endOfL, hl, this]
theorem atL_unique {t : List NodeD} {p : Int} {j : Nat} (hnd : (panesL t).Nodup) (hj : j < t.length) (hp : (gat encNode t j).Pane = p) (h0 : p ≠ 0) : atL t p = j := by
  have h1 : p ∈ panesL (t.take (j + 1)) := by
    refine mem_panes.2 ⟨gat encNode t j, ?_, hp, h0⟩
    rw [take_gat hj]; simp
  have h2 : p ∈ panesL (t.drop j) := by
    refine mem_panes.2 ⟨gat encNode t j, ?_, hp, h0⟩
    rw [nat_drop hj]; simp
  have h3 := (atL_take_lt h1).1
  have h4 := atL_ge hnd h2
  omega
theorem setPane_len {t : List NodeD} {i : Nat} {p : Int} : (setPane t i p).length = t.length := by simp [setPane]
theorem perm_swap {A B C : List Int} {p q : Int} : (A ++ q :: (B ++ p :: C)).Perm (A ++ p :: (B ++ q :: C)) := by
  refine List.Perm.append_left A ?_
  have h1 : (B ++ p :: C).Perm (p :: (B ++ C)) := List.perm_middle
  have h2 : (B ++ q :: C).Perm (q :: (B ++ C)) := List.perm_middle
  exact (h1.cons q).trans ((List.Perm.swap p q (B ++ C)).trans (h2.symm.cons p))
/-- Two panes changed: the list of panes is the same but for the order. -/
theorem swap_perm {t : List NodeD} {i k : Nat} {p q : Int} (hi : i < t.length) (hk : k < t.length) (hik : i < k) (hp : (gat encNode t i).Pane = p) (hq : (gat encNode t k).Pane = q) (hp0 : p ≠ 0) (hq0 : q ≠ 0) :
    (panesL (setPane (setPane t i q) k p)).Perm (panesL t) := by
  have e1 : t = t.take i ++ gat encNode t i :: ((t.drop (i + 1)).take (k - (i + 1)) ++ gat encNode t k :: t.drop (k + 1)) := by
    have h1 : t.drop (i + 1) = (t.drop (i + 1)).take (k - (i + 1)) ++ t.drop k := by
      conv => lhs; rw [← List.take_append_drop (k - (i + 1)) (t.drop (i + 1))]
      rw [List.drop_drop]
      congr 2
      omega
    rw [← nat_drop hk, ← h1, ← nat_drop hi, List.take_append_drop]
  obtain ⟨A, hA⟩ : ∃ A, A = t.take i := ⟨_, rfl⟩
  obtain ⟨B, hB⟩ : ∃ B, B = (t.drop (i + 1)).take (k - (i + 1)) := ⟨_, rfl⟩
  obtain ⟨C, hC⟩ : ∃ C, C = t.drop (k + 1) := ⟨_, rfl⟩
  rw [← hA, ← hB, ← hC] at e1
  have lA : A.length = i := by rw [hA, List.length_take]; omega
  have lB : B.length = k - (i + 1) := by rw [hB, List.length_take, List.length_drop]; omega
  obtain ⟨x, hx⟩ : ∃ x, x = gat encNode t i := ⟨_, rfl⟩
  obtain ⟨y, hy⟩ : ∃ y, y = gat encNode t k := ⟨_, rfl⟩
  have e2 : setPane (setPane t i q) k p = A ++ { x with Pane := q } :: (B ++ { y with Pane := p } :: C) := by
    have hg : gat encNode (setPane t i q) k = y := by rw [setPane_gat hi, if_neg (by omega), hy]
    rw [setPane, hg]
    unfold setPane
    rw [← hx, ← hy] at e1
    rw [← hx]
    conv => lhs; rw [e1]
    rw [List.set_append, if_neg (by omega), show i - A.length = 0 by omega, List.set_cons_zero, List.set_append, if_neg (by omega), show k - A.length = (k - i - 1) + 1 by omega, List.set_cons_succ, List.set_append, if_neg (by omega), show k - i - 1 - B.length = 0 by omega, List.set_cons_zero]
  rw [e2]
  conv => rhs; rw [e1]
  rw [← hx] at hp
  rw [← hy] at hq
  have p1 : ∀ (n : NodeD) (l : List NodeD), n.Pane ≠ 0 → panesL (n :: l) = n.Pane :: panesL l := fun n l hn => by simp [panesL, hn]
  rw [← hx, ← hy, panesL_append, panesL_append, p1 _ _ (by simpa using hq0), p1 x _ (by rw [hp]; exact hp0), panesL_append, panesL_append, p1 _ _ (by simpa using hp0), p1 y _ (by rw [hq]; exact hq0), hp, hq]
  exact perm_swap
theorem setPane_comm {t : List NodeD} {i k : Nat} {p q : Int} (hi : i < t.length) (hk : k < t.length) (hik : i ≠ k) : setPane (setPane t i q) k p = setPane (setPane t k p) i q := by
  have h1 : gat encNode (setPane t i q) k = gat encNode t k := by rw [setPane_gat hi, if_neg (Ne.symm hik)]
  have h2 : gat encNode (setPane t k p) i = gat encNode t i := by rw [setPane_gat hk, if_neg hik]
  conv => lhs; rw [setPane, h1]
  conv => rhs; rw [setPane, h2]
  unfold setPane
  rw [List.set_comm _ _ hik]
theorem swap_perm' {t : List NodeD} {i k : Nat} {p q : Int} (hi : i < t.length) (hk : k < t.length) (hp : (gat encNode t i).Pane = p) (hq : (gat encNode t k).Pane = q) (hp0 : p ≠ 0) (hq0 : q ≠ 0) :
    (panesL (setPane (setPane t i q) k p)).Perm (panesL t) := by
  rcases Nat.lt_trichotomy i k with h | h | h
  · exact swap_perm hi hk h hp hq hp0 hq0
  · subst h
    have hpq : p = q := hp.symm.trans hq
    subst hpq
    have e : setPane t i p = t := by rw [← hp]; exact setPane_self
    rw [e, e]
  · rw [setPane_comm hi hk (by omega)]
    exact swap_perm hk hi h hq hp hq0 hp0
theorem swap_facts {t : List NodeD} {p q : Int} (hk : swapOk t p q = true) : swapOk (swapL t p q) p q = true ∧ swapL (swapL t p q) p q = t := by
  have hk' := hk
  simp only [swapOk, Bool.and_eq_true, decide_eq_true_eq] at hk'
  obtain ⟨⟨hto, hp⟩, hq⟩ := hk'
  obtain ⟨i1, i2, i3⟩ := atL_pane hp
  obtain ⟨k1, k2, k3⟩ := atL_pane hq
  obtain ⟨i, hi⟩ : ∃ i, i = (atL t p).toNat := ⟨_, rfl⟩
  obtain ⟨k, hkk⟩ : ∃ k, k = (atL t q).toNat := ⟨_, rfl⟩
  rw [← hi] at i1 i2
  rw [← hkk] at k1 k2
  have hnd := treeOk_nodup hto
  have ea : swapL t p q = setPane (setPane t i q) k p := by rw [swapL, if_pos hk, ← hi, ← hkk]
  obtain ⟨a, haa⟩ : ∃ a, a = setPane (setPane t i q) k p := ⟨_, rfl⟩
  rw [ea, ← haa]
  have hla : a.length = t.length := by rw [haa, setPane_len, setPane_len]
  have hga : ∀ j, gat encNode a j = if j = k then { gat encNode t k with Pane := p } else if j = i then { gat encNode t i with Pane := q } else gat encNode t j := by
    intro j
    rw [haa, setPane_gat (by rw [setPane_len]; exact k1)]
    by_cases hj : j = k
    · rw [if_pos hj, if_pos hj, setPane_gat i1]
      by_cases hki : k = i
      · rw [if_pos hki, hki]
      · rw [if_neg hki]
    · rw [if_neg hj, if_neg hj, setPane_gat i1]
  have hperm : (panesL a).Perm (panesL t) := by rw [haa]; exact swap_perm' i1 k1 i2 k2 i3 k3
  have hnode : ∀ j, j < t.length → nodeOk (gat encNode t j) = true := fun j hj => treeOk_node hto hj
  have hleaf : ∀ j x, j < t.length → (gat encNode t j).Pane = x → x ≠ 0 → leafOk (gat encNode t j) = true := fun j x hj hx h0 => by
    have := hnode j hj
    rwa [nodeOk, if_neg (by rw [hx]; exact h0)] at this
  have hidp : isId p = true := by
    have := hleaf i p i1 i2 i3
    rw [leafOk, i2] at this
    simp only [Bool.and_eq_true] at this
    exact this.1.1
  have hidq : isId q = true := by
    have := hleaf k q k1 k2 k3
    rw [leafOk, k2] at this
    simp only [Bool.and_eq_true] at this
    exact this.1.1
  have hto2 : treeOk a = true := by
    refine treeOk_mk (by rw [hla]; exact treeOk_len hto) ?_ (fun j hj => ?_) (hperm.nodup_iff.2 hnd)
    · rw [hla, ← treeOk_sEnd hto]
      refine sEnd_like hla fun j hj => ?_
      rw [hga]
      by_cases hj1 : j = k
      · subst hj1
        simp [i3, k2, k3]
      · rw [if_neg hj1]
        by_cases hj2 : j = i
        · subst hj2
          simp [i2, i3, k3]
        · rw [if_neg hj2]
    · rw [hga]
      rw [hla] at hj
      by_cases hj1 : j = k
      · rw [if_pos hj1]
        have := hleaf k q k1 k2 k3
        simp only [leafOk, Bool.and_eq_true] at this
        simp only [nodeOk, if_neg i3, leafOk, hidp, this.1.2, this.2, Bool.and_self]
      · rw [if_neg hj1]
        by_cases hj2 : j = i
        · rw [if_pos hj2]
          have := hleaf i p i1 i2 i3
          simp only [leafOk, Bool.and_eq_true] at this
          simp only [nodeOk, if_neg k3, leafOk, hidq, this.1.2, this.2, Bool.and_self]
        · rw [if_neg hj2]; exact hnode j hj
  have hnd2 := treeOk_nodup hto2
  have hap : atL a p = k := atL_unique hnd2 (by omega) (by rw [hga, if_pos rfl]) i3
  have haq : atL a q = i := by
    by_cases hik : i = k
    · have : p = q := by rw [← i2, ← k2, hik]
      rw [← this, hap, hik]
    · exact atL_unique hnd2 (by omega) (by rw [hga, if_neg hik, if_pos rfl]) k3
  have hok : swapOk a p q = true := by
    simp only [swapOk, hto2, Bool.true_and, Bool.and_eq_true, decide_eq_true_eq]
    omega
  refine ⟨hok, ?_⟩
  rw [swapL, if_pos hok, hap, haq, Int.toNat_natCast, Int.toNat_natCast]
  apply List.ext_getElem?
  intro j
  have hl3 : (setPane (setPane a k q) i p).length = t.length := by rw [setPane_len, setPane_len, hla]
  by_cases hj : j < t.length
  · rw [gat_get (F := encNode) (by rw [hl3]; exact hj), gat_get (F := encNode) hj, setPane_gat (by rw [setPane_len, hla]; exact i1), setPane_gat (by rw [hla]; exact k1), setPane_gat (by rw [hla]; exact k1)]
    congr 1
    by_cases hji : j = i
    · subst hji
      rw [if_pos rfl]
      by_cases hjk : j = k
      · subst hjk
        rw [if_pos rfl, hga, if_pos rfl]
        rw [← i2]
      · rw [if_neg hjk, hga, if_neg hjk, if_pos rfl, ← i2]
    · rw [if_neg hji]
      by_cases hjk : j = k
      · subst hjk
        rw [if_pos rfl, hga, if_pos rfl, ← k2]
      · rw [if_neg hjk, hga, if_neg hjk, if_neg hji]
  · rw [List.getElem?_eq_none (by omega), List.getElem?_eq_none (by omega)]
/-- Going on from a pane. -/
theorem after_at {t : List NodeD} (hto : treeOk t = true) {m : Nat} (hm : m < (panesL t).length) : afterL t (iat (panesL t) m) = iat (panesL t) ((m + 1) % (panesL t).length) := by
  have hnd := treeOk_nodup hto
  have hlv := leaves_ok hto
  have hf : findI (fun z => decide (iat (panesL t) m = z)) (panesL t) = m := by
    refine findI_some (F := encI) hm (fun j hj => ?_) (by simp)
    have h1 := List.pairwise_iff_getElem.1 hnd j m (by omega) hm hj
    rw [← iat_getElem (by omega), ← iat_getElem hm] at h1
    simp only [decide_eq_false_iff_not]
    exact fun e => h1 e.symm
  rw [afterL, hlv, hf, if_neg (by omega)]
  congr 1
theorem after_none {t : List NodeD} (hto : treeOk t = true) {p : Int} (hp : p ∉ panesL t) : afterL t p = 0 := by
  rw [afterL, leaves_ok hto, findI_none (F := encI) (fun j hj => by
    simp only [decide_eq_false_iff_not]
    intro e
    exact hp (by rw [e]; exact gat_mem (F := encI) hj))]
  simp
/-- What lies beside. -/
theorem beside_facts {t : List NodeD} {p side w h : Int} (hp : placesOk t w h = true) (h0 : besideL t p side w h ≠ 0) : besideB (placeR t w h (besideL t p side w h)) (placeR t w h p) side = true ∧ 0 ≤ placeAt t w h (besideL t p side w h) ∧ Within (placeR t w h (besideL t p side w h)) ⟨0, 0, 0, w, h⟩ := by
  obtain ⟨r, hr⟩ : ∃ r, r = besideL t p side w h := ⟨_, rfl⟩
  rw [← hr] at h0 ⊢
  unfold besideL at hr
  split at hr
  · split at hr
    · rename_i h1 h2
      unfold besideAt at h2 hr
      rcases findI_cases (p := fun r => besideB r (placeR t w h p) side) (xs := placesL t w h) with ⟨e, _⟩ | ⟨i, hi, e, hb, _⟩
      · omega
      · rw [e, Int.toNat_natCast] at hr
        have hg : (placesL t w h)[i] = gat encRect (placesL t w h) i := by
          have e_ := gat_get (F := encRect) hi
          rw [List.getElem?_eq_getElem hi] at e_
          exact Option.some.inj e_
        have hu := place_unique hp (List.getElem_mem hi) (p := r) (by rw [hg]; exact hr.symm)
        rw [hu.1]
        exact ⟨hb, hu.2, (placesL_within _ (List.getElem_mem hi)).1⟩
    · exact absurd hr h0
  · exact absurd hr h0
theorem beside_none {t : List NodeD} {p side w h : Int} (hs : side ≠ 76 ∧ side ≠ 82 ∧ side ≠ 85 ∧ side ≠ 68) : besideL t p side w h = 0 := by
  have : besideAt t p side w h = -1 := findI_none (F := encRect) fun j hj => by simp [besideB, hs]
  rw [besideL, this]
  simp
theorem placeR_within {t : List NodeD} {w h p : Int} (h0 : 0 ≤ placeAt t w h p) : Within (placeR t w h p) ⟨0, 0, 0, w, h⟩ := by
  have h1 := placeAt_lt t w h p
  unfold placeR
  rw [if_pos h0]
  exact (placesL_within _ (gat_mem (F := encRect) (by omega))).1
/-- A moved border keeps the panes. -/
theorem grow_panes {t : List NodeD} {k u : Nat} {by_ w h : Int} (hu : isSplit t u = true) : panesL (growOut t k u by_ w h) = panesL t := by
  unfold growOut
  by_cases hul : u < t.length
  · have e1 : t = t.take u ++ gat encNode t u :: t.drop (u + 1) := by rw [← nat_drop hul, List.take_append_drop]
    have e2 : ∀ x : NodeD, t.set u x = t.take u ++ x :: t.drop (u + 1) := fun x => by
      rw [List.set_eq_take_append_cons_drop, if_pos hul]
    rw [e2, panesL_append]
    conv => rhs; rw [e1, panesL_append]
    have hp : (gat encNode t u).Pane = 0 := by simpa [isSplit] using hu
    rw [panesL_split hp, panesL_split (by exact hp)]
  · rw [List.set_eq_of_length_le (by omega)]
/-- A pane under a split by columns is less than the whole. -/
theorem grow_less {t : List NodeD} {p : Int} {u : Nat} {w h : Int} (hp : placesOk t w h = true) (ha : 0 ≤ atL t p) (hu : u < (atL t p).toNat) (ho : isOver t (atL t p).toNat u = true) (hd : (gat encNode t u).Down = false) : (placeR t w h p).W < w := by
  have hp' := hp
  simp only [placesOk, Bool.and_eq_true] at hp'
  have hso := hp'.1
  simp only [sidesOk, Bool.and_eq_true, within_iff] at hso
  have hto := hso.1.1
  obtain ⟨_, hfl, hsh⟩ := theT_at hto
  obtain ⟨i1, i2, i3⟩ := atL_pane ha
  obtain ⟨S, R, A, B, rest, g1, g2, g3, g4, g5, g6, g7, g8, g9, g10, g11⟩ := put_sub hsh (firsts_of hto) (r := ⟨0, 0, 0, w, h⟩) hso.1.2.1 hso.2.1 hp'.2 u (by rw [hfl]; omega)
  rw [hfl] at g1
  have hat : At t u S := ⟨g2, fun n hn => by
    obtain ⟨_, ⟨T, hT, ho, hf⟩, _⟩ := treeOk_iff.1 hto
    have : n ∈ t.drop u := by rw [g1]; exact List.mem_append_left _ hn
    exact ho n (List.mem_of_mem_drop this), rest, g1⟩
  simp only [isOver, Bool.and_eq_true, decide_eq_true_eq] at ho
  have hend := hat.endI
  obtain ⟨n, a, b, rfl⟩ := hat.of_split ho.1
  have hn := hat.parts.1
  have epl : placesL t w h = A ++ (placeS (.split n a b) R).1 ++ B := by rw [placesL, if_pos hp, g9]
  have hw := placesL_within (t := t) (w := w) (h := h)
  obtain ⟨q1, q2, _, _⟩ := place_edges g2 g3 g4 g5 g6
  obtain ⟨q1, m1, e1⟩ := q1
  obtain ⟨q2, m2, e2⟩ := q2
  have inn : ∀ q, q ∈ (placeS (.split n a b) R).1 → q ∈ placesL t w h := fun q hq => by rw [epl]; exact List.mem_append_left _ (List.mem_append_right _ hq)
  have b1 := (hw q1 (inn q1 m1)).1.x0
  have b2 := (hw q2 (inn q2 m2)).1.x1
  simp only at b1 b2
  have hpm : p ∈ panesL (Tr.split n a b).flat := by
    refine mem_panes.2 ⟨gat encNode t (atL t p).toNat, ?_, i2, i3⟩
    have hlt : (atL t p).toNat - u < (Tr.split n a b).flat.length := by omega
    have : t[(atL t p).toNat]? = ((Tr.split n a b).flat ++ rest)[(atL t p).toNat - u]? := by
      rw [← g1, List.getElem?_drop]; congr 1; omega
    rw [gat_get (F := encNode) i1, List.getElem?_append_left hlt] at this
    exact List.mem_of_getElem? this.symm
  rw [← placeS_panes g2 g6] at hpm
  obtain ⟨q, hq, hqp⟩ := List.mem_map.1 hpm
  rw [(place_unique hp (inn q hq) hqp).1]
  have hs3 : 3 ≤ sizeR n R := by
    simp only [placeS] at g6
    split at g6
    · assumption
    · simp at g6
  have hnf := g3 n (by simp [Tr.flat]) g2.1
  have w1 := within_first g4 g5 hnf hs3
  have w2 := within_second g4 g5 hnf hs3
  rw [← hn] at hs3 w1 w2 hnf
  simp only [placeS] at hq
  rw [← hn, if_pos hs3] at hq
  have hfa : Firsts a := fun m hm => g3 m (by simp [Tr.flat, hm])
  have hfb : Firsts b := fun m hm => g3 m (by simp [Tr.flat, hm])
  simp only [sizeR, hd] at hs3
  simp only [Bool.false_eq_true, if_false] at hs3
  rcases List.mem_append.1 hq with hq | hq
  · have x := placeS_within g2.2.1 hfa w1.w1 w1.h1 q hq
    have x0 := x.x0
    have x1 := x.x1
    simp only [firstR, hd, Bool.false_eq_true, if_false] at x0 x1
    omega
  · have x := placeS_within g2.2.2 hfb w2.w1 w2.h1 q hq
    have x0 := x.x0
    have x1 := x.x1
    simp only [secondR, hd, Bool.false_eq_true, if_false] at x0 x1
    omega
theorem places_tree {t : List NodeD} {w h : Int} (hp : placesOk t w h = true) : treeOk t = true := by
  simp only [placesOk, sidesOk, Bool.and_eq_true] at hp
  exact hp.1.1.1
theorem growOk_facts {t : List NodeD} {p by_ : Int} (hk : growOk t p false by_ 24 12 = true) : (placeR t 24 12 p).W < 24 ∧ placesOk (growL t p false by_ 24 12) 24 12 = true ∧ panesL (growL t p false by_ 24 12) = panesL t ∧ 1 < (panesL t).length := by
  have hk' := hk
  simp only [growOk, Bool.and_eq_true, decide_eq_true_eq] at hk'
  obtain ⟨⟨⟨⟨h1, h2⟩, h3⟩, h4⟩, h5⟩ := hk'
  obtain ⟨u, hu, huk, hus, hud⟩ := growUp_some h4
  have ho : isOver t (atL t p).toNat u = true := by
    unfold growUp at hu
    rcases lastI_cases (overD t false (atL t p).toNat) (atL t p).toNat with ⟨e, _⟩ | ⟨v, e, hv, hp, _⟩
    · omega
    · obtain rfl : v = u := by omega
      simp only [overD, Bool.and_eq_true] at hp
      exact hp.1
  have hat := (atL_pane h2).1
  have hn := (facts_of h1).nodes
  have ho2 := ho
  simp only [isOver, Bool.and_eq_true, decide_eq_true_eq] at ho2
  rw [growL, if_pos hk]
  refine ⟨grow_less h1 h2 huk ho hud, h5, ?_, ?_⟩
  · rw [hu, Int.toNat_natCast]; exact grow_panes hus
  · omega
end Go.Proofs.Ytghcicggamkjgaa
