/-
  Plain laws: what the readers of runes reckon.
-/
import Derived.Test.YtlmcekfdlgkffaaM6
import Derived.Test.YtlmcekfdlgkffaaEC
namespace Go.Proofs.Ytlmcekfdlgkffaa
open Go Go.RowKit
set_option linter.unusedVariables false
set_option linter.unusedSimpArgs false

theorem tlN_bnd {l : List UInt8} (h : l.length ≤ 2) : tlN l ≤ 4095 ∧ (l.length ≤ 1 → tlN l ≤ 63) ∧ (l.length = 0 → tlN l = 0) := by
  match l, h with
  | [], _ => simp [tlN]
  | [a], _ => simp only [tlN_one, List.length_cons, List.length_nil]; omega
  | [a, b], _ => simp only [tlN_two, List.length_cons, List.length_nil]; omega
theorem tlV_bnd {l : List UInt8} (h : l.length ≤ 2) : tlV l ≤ 4095 ∧ (l.length ≤ 1 → tlV l ≤ 63) ∧ (l.length = 0 → tlV l = 0) := by
  have := tlN_bnd h
  unfold tlV; split <;> omega
/-- What the first byte holds of a rune of so many bytes. -/
def rfst (a : UInt8) (c : Nat) : Int := a.toNat - (if c = 2 then 192 else if c = 3 then 224 else 0)
def rsum (a : UInt8) (tl : List UInt8) (c : Nat) : Int := rfst a c * 64 ^ (c - 1) + tlV tl
theorem rsum_cand {a : UInt8} {l : List UInt8} {c : Nat} (hc : c = 1 ∨ c = 2 ∨ c = 3) (hl : c ≤ l.length + 1) (h : tlOk (l.take (c - 1)) = true) : cand (a :: l) c = rsum a (l.take (c - 1)) c := by
  have hv : tlV (l.take (c - 1)) = tlN (l.take (c - 1)) := by unfold tlV; rw [if_pos h]
  unfold rsum
  rw [hv]
  rcases hc with rfl | rfl | rfl
  · simp [cand, rfst, tlN]
  · match l, hl with
    | b :: r, _ =>
      simp only [tlOk, List.take_succ_cons, List.take_zero, List.all_cons, List.all_nil, Bool.and_true, decide_eq_true_eq] at h
      simp only [cand, rfst, List.take_succ_cons, List.take_zero, tlN_one]
      rw [show (64 : Int) ^ (2 - 1) = 64 from by decide, if_pos trivial]
      omega
  · match l, hl with
    | b :: b2 :: r, _ =>
      simp only [tlOk, List.take_succ_cons, List.take_zero, List.all_cons, List.all_nil, Bool.and_true, decide_eq_true_eq, Bool.and_eq_true] at h
      simp only [cand, rfst, List.take_succ_cons, List.take_zero, tlN_two]
      rw [show (64 : Int) ^ (3 - 1) = 4096 from by decide, if_neg (by decide), if_pos trivial]
      omega
theorem rtry_tl {a : UInt8} {l : List UInt8} {c : Nat} (hc : c = 1 ∨ c = 2 ∨ c = 3) (h : rtry (a :: l) c = true) : tlOk (l.take (c - 1)) = true := by
  have hlen : c ≤ l.length + 1 := by
    rcases Nat.lt_or_ge (l.length + 1) c with h1 | h1
    · rw [rtry_len (by simpa using h1)] at h; cases h
    · exact h1
  rcases hc with rfl | rfl | rfl
  · simp [tlOk]
  · match l, hlen with
    | b :: r, _ =>
      have := rtry2.1 h
      simp [tlOk]; omega
  · match l, hlen with
    | b :: b2 :: r, _ =>
      have := rtry3.1 h
      simp [tlOk]; omega
/-- The answer by the class of the first byte. -/
theorem runeL_rsum {a : UInt8} {l : List UInt8} {c : Nat} (hc : rcls a = c) : runeL (a :: l) = if c ≤ l.length + 1 ∧ tlOk (l.take (c - 1)) = true ∧ runeB (rsum a (l.take (c - 1)) c) = (a :: l).take c then some (rsum a (l.take (c - 1)) c, c) else none := by
  subst hc
  have ho := rcls_or a
  rw [runeL_cls]
  split
  · rename_i h
    have h1 := rtry_tl ho h
    have h2 : rcls a ≤ (a :: l).length ∧ runeB (cand (a :: l) (rcls a)) = (a :: l).take (rcls a) := by simpa [rtry] using h
    have h3 := rsum_cand (a := a) ho h2.1 h1
    rw [if_pos ⟨h2.1, h1, by rw [← h3]; exact h2.2⟩, h3]
  · rename_i h
    rw [if_neg]
    rintro ⟨h1, h2, h3⟩
    apply h
    have h4 := rsum_cand (a := a) ho h1 h2
    unfold rtry
    rw [h4, h3]
    simp; omega
theorem or_sum {x y : Nat} (k : Nat) (h : y < 2 ^ k) : (x * 2 ^ k) ||| y = x * 2 ^ k + y := by
  rw [Nat.mul_comm x, Nat.two_pow_add_eq_or_of_lt h]
theorem or_int {f : Int} {y : Nat} (k : Nat) (hf : 0 ≤ f) (h : y < 2 ^ k) : (((f * 2 ^ k).toNat ||| y : Nat) : Int) = f * 2 ^ k + y := by
  obtain ⟨m, rfl⟩ := Int.eq_ofNat_of_zero_le hf
  have e : (((m : Int) * 2 ^ k).toNat) = m * 2 ^ k := by
    have : ((m : Int) * 2 ^ k) = ((m * 2 ^ k : Nat) : Int) := by simp
    rw [this, Int.toNat_natCast]
  rw [e, or_sum k h]
  simp
theorem rread {b : List UInt8} {c : Nat} (hb : 1 ≤ b.length) (hc : rcls (bat b 0) = c) : runeL b = if c ≤ b.length ∧ tlOk ((b.drop 1).take (c - 1)) = true ∧ runeB (rsum (bat b 0) ((b.drop 1).take (c - 1)) c) = b.take c then some (rsum (bat b 0) ((b.drop 1).take (c - 1)) c, c) else none := by
  cases b with
  | nil => simp at hb
  | cons a l => exact runeL_rsum hc
theorem rread_yes {b : List UInt8} {c : Nat} {r : Int} (hb : 1 ≤ b.length) (hc : rcls (bat b 0) = c) (h1 : c ≤ b.length) (h2 : tlOk ((b.drop 1).take (c - 1)) = true) (hr : r = rsum (bat b 0) ((b.drop 1).take (c - 1)) c) (h3 : runeB r = b.take c) : runeL b = some (r, c) := by
  rw [rread hb hc, if_pos ⟨h1, h2, hr ▸ h3⟩, hr]
theorem rread_no {b : List UInt8} {c : Nat} (hb : 1 ≤ b.length) (hc : rcls (bat b 0) = c) (h : ∀ r : Int, r = rsum (bat b 0) ((b.drop 1).take (c - 1)) c → c ≤ b.length → tlOk ((b.drop 1).take (c - 1)) = true → runeB r = b.take c → False) : runeL b = none := by
  rw [rread hb hc, if_neg]
  rintro ⟨h1, h2, h3⟩
  exact h _ rfl h1 h2 h3
theorem p6 : ((6 : Int) * (1 - 1)).toNat = 0 ∧ ((6 : Int) * (2 - 1)).toNat = 6 ∧ ((6 : Int) * (3 - 1)).toNat = 12 := ⟨rfl, rfl, rfl⟩
theorem rsum_or {a : UInt8} {t : List UInt8} {c : Nat} {x : Int} (hc : c = 1 ∧ x = a.toNat * 2 ^ 0 ∨ c = 2 ∧ 192 ≤ a.toNat ∧ x = ((a.toNat : Int) - 192) * 2 ^ 6 ∨ c = 3 ∧ 224 ≤ a.toNat ∧ x = ((a.toNat : Int) - 224) * 2 ^ 12) (hl : t.length = c - 1) : ((x.toNat ||| ((tlV t : Nat) : Int).toNat : Nat) : Int) = rsum a t c := by
  have hb := tlV_bnd (l := t) (by omega)
  rw [Int.toNat_natCast]
  rcases hc with ⟨rfl, rfl⟩ | ⟨rfl, h1, rfl⟩ | ⟨rfl, h1, rfl⟩
  · rw [or_int 0 (by omega) (by omega)]
    simp [rsum, rfst]
  · rw [or_int 6 (by omega) (by omega)]
    simp [rsum, rfst]
  · rw [or_int 12 (by omega) (by omega)]
    simp [rsum, rfst]
/-- What the reference reckons, byte by byte. -/
def candI (l : List UInt8) (s : Nat) : Nat → Int
  | 0 => (bat l 0).toNat - iat [0, 0, 192, 224] s
  | i + 1 => candI l s i * 64 + (bat l (i + 1)).toNat - 128
theorem candI_cand {l : List UInt8} {s : Nat} (h1 : 1 ≤ s) (h3 : s ≤ 3) (hl : s ≤ l.length) : candI l s (s - 1) = cand l s := by
  have : s = 1 ∨ s = 2 ∨ s = 3 := by omega
  rcases this with rfl | rfl | rfl
  · match l, hl with
    | a :: r, _ => simp [candI, cand, gat, bat, iat]
  · match l, hl with
    | a :: b :: r, _ => simp [candI, cand, gat, bat, iat]
  · match l, hl with
    | a :: b :: c :: r, _ => simp [candI, cand, gat, bat, iat]
theorem candI_next {l : List UInt8} {s i : Nat} (h : 1 ≤ i) : candI l s (i + 1 - 1) = candI l s (i - 1) * 64 + (gat encB l i).toNat - 128 := by
  obtain ⟨j, rfl⟩ : ∃ j, i = j + 1 := ⟨i - 1, by omega⟩
  rfl
theorem t4_bnd (s : Nat) : 0 ≤ gat encI [0, 0, 192, 224] s ∧ gat encI [0, 0, 192, 224] s ≤ 224 := by
  match s with
  | 0 => decide
  | 1 => decide
  | 2 => decide
  | 3 => decide
  | _ + 4 => simp [iat, gat]; decide
theorem candI_bnd {l : List UInt8} {s i : Nat} (h : i ≤ 2) : -2000000 ≤ candI l s i ∧ candI l s i ≤ 2000000 := by
  have hi : 0 ≤ iat [0, 0, 192, 224] s ∧ iat [0, 0, 192, 224] s ≤ 224 := t4_bnd s
  have h0 := (bat l 0).toNat_lt
  have h1 := (bat l 1).toNat_lt
  have h2 := (bat l 2).toNat_lt
  generalize hx : iat [0, 0, 192, 224] s = x at hi
  have e0 : candI l s 0 = (bat l 0).toNat - x := by rw [← hx]; rfl
  have e1 : candI l s 1 = candI l s 0 * 64 + (bat l 1).toNat - 128 := rfl
  have e2 : candI l s 2 = candI l s 1 * 64 + (bat l 2).toNat - 128 := rfl
  have : i = 0 ∨ i = 1 ∨ i = 2 := by omega
  rcases this with rfl | rfl | rfl <;> omega
theorem rtry_iff {l : List UInt8} {s : Nat} (hl : s ≤ l.length) : (decide ((runeB (cand l s)).length = s) && decide (runeB (cand l s) = l.take s)) = rtry l s := by
  unfold rtry
  rw [show decide (s ≤ l.length) = true from decide_eq_true hl, Bool.true_and]
  by_cases h : runeB (cand l s) = l.take s
  · rw [h]; simp [hl]
  · simp [h]
theorem runeL_at {l : List UInt8} {s : Nat} (h : rtry l s = true) (h1 : 1 ≤ s) (h3 : s ≤ 3) (hn : ∀ t, 1 ≤ t → t < s → rtry l t = false) : runeL l = some (cand l s, s) := by
  unfold runeL
  have : s = 1 ∨ s = 2 ∨ s = 3 := by omega
  rcases this with rfl | rfl | rfl
  · rw [if_pos h]
  · rw [if_neg (by rw [hn 1 (by omega) (by omega)]; decide), if_pos h]
  · rw [if_neg (by rw [hn 1 (by omega) (by omega)]; decide), if_neg (by rw [hn 2 (by omega) (by omega)]; decide), if_pos h]
theorem runeL_none {l : List UInt8} (hn : ∀ t, 1 ≤ t → t ≤ 3 → rtry l t = false) : runeL l = none := by
  unfold runeL
  rw [hn 1 (by omega) (by omega), hn 2 (by omega) (by omega), hn 3 (by omega) (by omega)]
  simp
theorem ub_nat {x : Nat} : ub (x : Int) = UInt8.ofNat x := by
  apply u8_inj
  rw [ub_toNat, UInt8.toNat_ofNat']
  omega
theorem beg_no {l : List UInt8} (hl : l.length = 1 ∨ l.length = 2) (h : ∀ x : Nat, 128 ≤ x → x < 192 → begHit l (ub x) = false) : runeBeg l = false := by
  rw [← Bool.not_eq_true, beg_iff hl]
  rintro ⟨x, h1, h2, h3⟩
  have := h x h1 h2
  rw [ub_nat, h3] at this
  cases this
theorem beg_yes {l : List UInt8} (hl : l.length = 1 ∨ l.length = 2) {x : Nat} (h1 : 128 ≤ x) (h2 : x < 192) (h : begHit l (ub x) = true) : runeBeg l = true := (beg_iff hl).2 ⟨x, h1, h2, by rwa [← ub_nat]⟩
theorem beg_len {l : List UInt8} (h : ¬ (l.length = 1 ∨ l.length = 2)) : runeBeg l = false := by
  match l, h with
  | [], _ => rfl
  | [_], h => simp at h
  | [_, _], h => simp at h
  | _ :: _ :: _ :: _, _ => rfl
theorem beg_two {b : List UInt8} (hb : b.length = 2) : (tlOk (b.drop 1) && decide (224 ≤ (((gat encB b 0).toNat : Nat) : Int)) && decide (2048 ≤ ((((gat encB b 0).toNat : Nat) : Int) - 224) * 4096 + ((tlV (b.drop 1) : Nat) : Int) * 64) && shows (((((gat encB b 0).toNat : Nat) : Int) - 224) * 4096 + ((tlV (b.drop 1) : Nat) : Int) * 64)) = runeBeg b := by
  match b, hb with
  | [x, y], _ =>
    have e1 : tlOk [y] = decide (y.toNat / 64 = 2) := by simp [tlOk]
    simp only [List.drop_succ_cons, List.drop_zero, runeBeg]
    by_cases h : y.toNat / 64 = 2
    · have e2 : tlV [y] = y.toNat % 64 := by unfold tlV; rw [e1, if_pos (by simpa using h), tlN_one]
      rw [e1, e2]
      have e3 : gat encB [x, y] 0 = x := rfl
      rw [e3, show decide ((224 : Int) ≤ ((x.toNat : Nat) : Int)) = decide (224 ≤ x.toNat) from by simp only [decide_eq_decide]; omega]
    · rw [e1, decide_eq_false h]; simp
theorem all_find {α : Type} {p : α → Bool} {l : List α} : (!decide (0 ≤ findI (fun x => !p x) l)) = l.all p := by
  rcases findI_cases (p := fun c => !p c) (xs := l) with ⟨h1, h2⟩ | ⟨i, hi, h1, h2, _⟩
  · rw [h1]
    have : l.all p = true := by
      rw [List.all_eq_true]
      intro x hx
      simpa using h2 x hx
    rw [this]; decide
  · rw [h1]
    have : l.all p = false := by
      rw [← Bool.not_eq_true]
      intro h
      rw [List.all_eq_true] at h
      have h3 := h _ (List.getElem_mem hi)
      rw [h3] at h2; cases h2
    rw [this]; simp
def vpBad (v : VpD) : Bool := ((decide (v.State < 0) || decide (3 < v.State)) || decide (8 < (v.Args.length : Int))) || (!(decide (v.State = 2) || decide (v.State = 3)) && (v.Mark || decide (0 < (v.Args.length : Int))))
theorem vpOk_bad {v : VpD} (h : vpBad v = true) : vpOk v = false := by
  rw [← Bool.not_eq_true]
  intro h2
  unfold vpOk at h2
  unfold vpBad at h
  simp only [Bool.or_eq_true, Bool.and_eq_true, decide_eq_true_eq, Bool.not_eq_true', Bool.or_eq_false_iff, decide_eq_false_iff_not] at h
  split at h2
  · simp only [Bool.and_eq_true, Bool.not_eq_true', decide_eq_true_eq] at h2
    rcases h with ((h | h) | h) | ⟨_, h | h⟩
    · omega
    · omega
    · omega
    · rw [h2.1.1] at h; cases h
    · omega
  · split at h2
    · simp only [Bool.and_eq_true, Bool.not_eq_true', decide_eq_true_eq] at h2
      rcases h with ((h | h) | h) | ⟨_, h | h⟩
      · omega
      · omega
      · omega
      · rw [h2.1.1] at h; cases h
      · omega
    · split at h2
      · rw [Bool.and_eq_true, areArgs_iff] at h2
        rcases h with ((h | h) | h) | ⟨h, _⟩
        · omega
        · omega
        · omega
        · omega
      · cases h2
theorem vpOk_arg {v : VpD} {j : Nat} (hj : j < v.Args.length) (h : within (gat encI v.Args j) 0 9999 = false) : vpOk v = false := by
  rw [← Bool.not_eq_true]
  intro h2
  unfold vpOk at h2
  split at h2
  · simp only [Bool.and_eq_true, Bool.not_eq_true', decide_eq_true_eq] at h2; omega
  · split at h2
    · simp only [Bool.and_eq_true, Bool.not_eq_true', decide_eq_true_eq] at h2; omega
    · split at h2
      · rw [Bool.and_eq_true, areArgs_iff] at h2
        have h3 := h2.1.2 _ (gat_mem (F := encI) hj)
        rw [← within_iff, h] at h3; cases h3
      · cases h2
theorem vpOk_end {v : VpD} (hb : vpBad v = false) (h : ∀ j, j < v.Args.length → within (gat encI v.Args j) 0 9999 = true) : vpOk v = (decide (v.Part.length = 0) || (decide (v.State = 0) && runeBeg v.Part)) := by
  unfold vpBad at hb
  simp only [Bool.or_eq_false_iff, Bool.and_eq_false_iff, decide_eq_false_iff_not, Bool.not_eq_false', Bool.or_eq_true, decide_eq_true_eq] at hb
  have ha : areArgs v.Args = true := by
    rw [areArgs_iff]
    refine ⟨by omega, fun x hx => ?_⟩
    obtain ⟨j, hj, rfl⟩ := List.mem_iff_getElem.1 hx
    have := h j hj
    rw [within_iff] at this
    have e := gat_get (F := encI) hj
    rw [List.getElem?_eq_getElem hj] at e
    rw [Option.some.inj e]; exact this
  by_cases h2 : v.State = 2 ∨ v.State = 3
  · rw [vpOk_csi h2, ha, decide_eq_false (show ¬ v.State = 0 by omega)]; simp
  · have h3 : v.Mark = false ∧ ¬ 0 < (v.Args.length : Int) := by
      rcases hb.2 with h4 | h4
      · exact absurd h4 h2
      · exact h4
    unfold vpOk
    have h0 : v.Args.length = 0 := by omega
    by_cases h5 : v.State = 0
    · rw [if_pos h5, h3.1, decide_eq_true h0, decide_eq_true h5]; simp
    · rw [if_neg h5, if_pos (by omega), h3.1, decide_eq_true h0, decide_eq_false h5]; simp
theorem areArgs_gat {l : List Int} {k : Nat} (h : areArgs l = true) (hk : k < l.length) : 0 ≤ gat encI l k ∧ gat encI l k ≤ 9999 := (areArgs_iff.1 h).2 _ (gat_mem (F := encI) hk)
theorem vpDigit_A {v : VpD} {d : Int} (h : v.Args.length = 0) : vpDigit v d = ⟨v.State, v.Mark, ([0] : List Int).set 0 (min 9999 (10 * gat encI [0] 0 + d)), v.Part⟩ := by unfold vpDigit args1; rw [if_pos h]; rfl
theorem vpDigit_B {v : VpD} {d : Int} (h : ¬ v.Args.length = 0) : vpDigit v d = ⟨v.State, v.Mark, v.Args.set (v.Args.length - 1) (min 9999 (10 * gat encI v.Args (v.Args.length - 1) + d)), v.Part⟩ := by unfold vpDigit args1; rw [if_neg h]
theorem vpNext_A {v : VpD} (h : v.Args.length = 0) : vpNext v = ⟨v.State, v.Mark, [0, 0], v.Part⟩ := by
  have e : args1 v.Args = [0] := if_pos h
  unfold vpNext; rw [e, if_neg (by decide)]; rfl
theorem vpNext_B {v : VpD} (h : ¬ v.Args.length = 0) (h8 : v.Args.length + 1 ≤ 8) : vpNext v = ⟨v.State, v.Mark, v.Args ++ [0], v.Part⟩ := by
  have e : args1 v.Args = v.Args := if_neg h
  unfold vpNext; rw [e, if_neg (by omega)]
theorem vpNext_C {v : VpD} (h8 : 8 < v.Args.length + 1) : vpNext v = ⟨3, v.Mark, (v.Args ++ [0]).take 8, v.Part⟩ := by
  have e : args1 v.Args = v.Args := if_neg (by omega)
  unfold vpNext; rw [e, if_pos (by omega)]
theorem vpNext_D {v : VpD} (h8 : v.Args.length = 8) : vpNext v = ⟨3, v.Mark, v.Args, v.Part⟩ := by
  rw [vpNext_C (by omega), List.take_append_of_le_length (by omega), List.take_of_length_le (by omega)]
end Go.Proofs.Ytlmcekfdlgkffaa
