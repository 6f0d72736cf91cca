/-
  Plain laws: runes and their bytes; the parser of what a process sends, byte by byte.
-/
import Derived.Test.YtlmcekfdlgkffaaMB
namespace Go.Proofs.Ytlmcekfdlgkffaa
open Go Go.RowKit
set_option linter.unusedVariables false
set_option linter.unusedSimpArgs false

def runeB (r : Int) : List UInt8 :=
  if shows r = false then [] else if r < 128 then [ub r] else if r < 2048 then [ub (192 + r / 64), ub (128 + r % 64)] else [ub (224 + r / 4096), ub (128 + r / 64 % 64), ub (128 + r % 64)]
theorem shows_iff {r : Int} : shows r = true ↔ (32 ≤ r ∧ r ≤ 126) ∨ (160 ≤ r ∧ r ≤ 65535 ∧ ¬ (55296 ≤ r ∧ r ≤ 57343)) := by
  simp [shows, within]; omega
theorem runeB_len (r : Int) : (runeB r).length ≤ 3 := by unfold runeB; (repeat' split) <;> simp
/-! the bytes behind the first one -/
def tlOk (l : List UInt8) : Bool := l.all fun x => decide (x.toNat / 64 = 2)
def tlN (l : List UInt8) : Nat := l.foldl (fun n x => 64 * n + x.toNat % 64) 0
theorem tlN_take {l : List UInt8} {i : Nat} (h : i < l.length) : tlN (l.take (i + 1)) = 64 * tlN (l.take i) + (gat encB l i).toNat % 64 := by
  unfold tlN
  rw [List.take_add_one, gat_get (F := encB) h, List.foldl_append]
  rfl
theorem tlOk_take {l : List UInt8} {i : Nat} (h : i < l.length) : tlOk (l.take (i + 1)) = (tlOk (l.take i) && decide ((gat encB l i).toNat / 64 = 2)) := by
  unfold tlOk
  rw [List.take_add_one, gat_get (F := encB) h, List.all_append]
  simp
theorem tlOk_bad {l : List UInt8} {i : Nat} (h : i < l.length) (hx : (gat encB l i).toNat / 64 ≠ 2) : tlOk l = false := by
  rw [← Bool.not_eq_true]
  intro hh
  unfold tlOk at hh
  rw [List.all_eq_true] at hh
  have := hh _ (gat_mem (F := encB) h)
  simp at this
  exact hx this
def tlV (l : List UInt8) : Nat := if tlOk l = true then tlN l else 0
theorem tlN_nil : tlN [] = 0 := rfl
theorem tlN_one (x : UInt8) : tlN [x] = x.toNat % 64 := by simp [tlN]
theorem tlN_two (x y : UInt8) : tlN [x, y] = 64 * (x.toNat % 64) + y.toNat % 64 := by simp [tlN]
/-! one rune out of bytes -/
def rcls (a : UInt8) : Nat := if 192 ≤ a.toNat ∧ a.toNat ≤ 223 then 2 else if 224 ≤ a.toNat ∧ a.toNat ≤ 239 then 3 else 1
/-- What so many bytes at the front would be. -/
def cand : List UInt8 → Nat → Int
  | a :: _, 1 => a.toNat
  | a :: b :: _, 2 => ((a.toNat : Int) - 192) * 64 + b.toNat - 128
  | a :: b :: c :: _, 3 => (((a.toNat : Int) - 224) * 64 + b.toNat - 128) * 64 + c.toNat - 128
  | _, _ => 0
def rtry (l : List UInt8) (s : Nat) : Bool := decide (s ≤ l.length) && decide (runeB (cand l s) = l.take s)
def runeL (l : List UInt8) : Option (Int × Nat) :=
  if rtry l 1 = true then some (cand l 1, 1) else if rtry l 2 = true then some (cand l 2, 2) else if rtry l 3 = true then some (cand l 3, 3) else none
def rvN : Option (Int × Nat) → Int
  | none => 0
  | some x => x.1
def rvS : Option (Int × Nat) → Nat
  | none => 0
  | some x => x.2
theorem ub_eq {n : Int} {a : UInt8} (h0 : 0 ≤ n) (h1 : n < 256) : ub n = a ↔ n = a.toNat := by
  constructor
  · rintro rfl
    rw [ub_toNat]; omega
  · intro h
    apply u8_inj
    rw [ub_toNat]; omega
theorem rtry1 {a : UInt8} {l : List UInt8} : rtry (a :: l) 1 = true ↔ 32 ≤ a.toNat ∧ a.toNat ≤ 126 := by
  have ha := a.toNat_lt
  simp only [rtry, cand, List.length_cons, Bool.and_eq_true, decide_eq_true_eq, List.take_succ_cons, List.take_zero]
  unfold runeB
  cases hs : shows (a.toNat : Int) with
  | false =>
    have : ¬ shows (a.toNat : Int) = true := by rw [hs]; decide
    rw [shows_iff] at this
    simp; omega
  | true =>
    have := shows_iff.1 hs
    have e : ub (a.toNat : Int) = a := (ub_eq (by omega) (by omega)).2 rfl
    rw [if_neg (by decide)]
    split
    · rw [e]; simp; omega
    · split <;> simp <;> omega
theorem rtry2 {a b : UInt8} {l : List UInt8} : rtry (a :: b :: l) 2 = true ↔ 194 ≤ a.toNat ∧ a.toNat ≤ 223 ∧ b.toNat / 64 = 2 ∧ 160 ≤ ((a.toNat : Int) - 192) * 64 + b.toNat % 64 := by
  have ha := a.toNat_lt
  have hb := b.toNat_lt
  simp only [rtry, cand, List.length_cons, Bool.and_eq_true, decide_eq_true_eq, List.take_succ_cons, List.take_zero]
  generalize hr : ((a.toNat : Int) - 192) * 64 + b.toNat - 128 = r
  unfold runeB
  cases hs : shows r with
  | false =>
    have : ¬ shows r = true := by rw [hs]; decide
    rw [shows_iff] at this
    simp; omega
  | true =>
    have := shows_iff.1 hs
    rw [if_neg (by decide)]
    split
    · simp; omega
    · split
      · simp only [List.cons.injEq, and_true]
        rw [ub_eq (by omega) (by omega), ub_eq (by omega) (by omega)]
        omega
      · simp; omega
theorem rtry3 {a b c : UInt8} {l : List UInt8} : rtry (a :: b :: c :: l) 3 = true ↔ (224 ≤ a.toNat ∧ a.toNat ≤ 239) ∧ b.toNat / 64 = 2 ∧ c.toNat / 64 = 2 ∧ 2048 ≤ ((a.toNat : Int) - 224) * 4096 + (b.toNat % 64) * 64 + c.toNat % 64 ∧ shows (((a.toNat : Int) - 224) * 4096 + (b.toNat % 64) * 64 + c.toNat % 64) = true := by
  have ha := a.toNat_lt
  have hb := b.toNat_lt
  have hc := c.toNat_lt
  simp only [rtry, cand, List.length_cons, Bool.and_eq_true, decide_eq_true_eq, List.take_succ_cons, List.take_zero]
  generalize hr : (((a.toNat : Int) - 224) * 64 + b.toNat - 128) * 64 + c.toNat - 128 = r
  unfold runeB
  rw [shows_iff]
  cases hs : shows r with
  | false =>
    have : ¬ shows r = true := by rw [hs]; decide
    rw [shows_iff] at this
    simp; omega
  | true =>
    have := shows_iff.1 hs
    rw [if_neg (by decide)]
    split
    · simp; omega
    · split
      · simp; omega
      · simp only [List.cons.injEq, and_true]
        rw [ub_eq (by omega) (by omega), ub_eq (by omega) (by omega), ub_eq (by omega) (by omega)]
        omega
theorem rtry_len {l : List UInt8} {s : Nat} (h : l.length < s) : rtry l s = false := by
  unfold rtry
  rw [show decide (s ≤ l.length) = false from decide_eq_false (by omega)]
  rfl
theorem rtry_cls {a : UInt8} {l : List UInt8} {s : Nat} (hs : s = 1 ∨ s = 2 ∨ s = 3) (h : rtry (a :: l) s = true) : rcls a = s := by
  have ha := a.toNat_lt
  unfold rcls
  rcases hs with rfl | rfl | rfl
  · have := rtry1.1 h
    rw [if_neg (by omega), if_neg (by omega)]
  · cases l with
    | nil => rw [rtry_len (by simp)] at h; cases h
    | cons b r =>
      have := rtry2.1 h
      rw [if_pos (by omega)]
  · match l, h with
    | [], h => rw [rtry_len (by simp)] at h; cases h
    | [b], h => rw [rtry_len (by simp)] at h; cases h
    | b :: c :: r, h =>
      have := rtry3.1 h
      rw [if_neg (by omega), if_pos (by omega)]
theorem rcls_or (a : UInt8) : rcls a = 1 ∨ rcls a = 2 ∨ rcls a = 3 := by
  unfold rcls
  split
  · exact .inr (.inl rfl)
  · split
    · exact .inr (.inr rfl)
    · exact .inl rfl
/-- What the bytes at the front say, by the class of the first one. -/
theorem runeL_cls {a : UInt8} {l : List UInt8} : runeL (a :: l) = if rtry (a :: l) (rcls a) = true then some (cand (a :: l) (rcls a), rcls a) else none := by
  unfold runeL
  by_cases h1 : rtry (a :: l) 1 = true
  · rw [rtry_cls (.inl rfl) h1, if_pos h1, if_pos h1]
  · rw [if_neg h1]
    by_cases h2 : rtry (a :: l) 2 = true
    · rw [rtry_cls (.inr (.inl rfl)) h2, if_pos h2, if_pos h2]
    · rw [if_neg h2]
      by_cases h3 : rtry (a :: l) 3 = true
      · rw [rtry_cls (.inr (.inr rfl)) h3, if_pos h3]
      · rw [if_neg h3]
        rcases rcls_or a with h | h | h <;> rw [h]
        · rw [if_neg h1]
        · rw [if_neg h2]
        · rw [if_neg h3]
theorem runeL_some {l : List UInt8} {r : Int} {s : Nat} (h : runeL l = some (r, s)) : 1 ≤ s ∧ s ≤ 3 ∧ s ≤ l.length ∧ runeB r = l.take s := by
  have key : ∀ s, rtry l s = true → s ≤ l.length ∧ runeB (cand l s) = l.take s := fun s hs => by
    simpa [rtry] using hs
  unfold runeL at h
  split at h
  · rename_i h1
    simp only [Option.some.injEq, Prod.mk.injEq] at h
    obtain ⟨rfl, rfl⟩ := h
    exact ⟨by omega, by omega, key _ h1⟩
  · split at h
    · rename_i h1
      simp only [Option.some.injEq, Prod.mk.injEq] at h
      obtain ⟨rfl, rfl⟩ := h
      exact ⟨by omega, by omega, key _ h1⟩
    · split at h
      · rename_i h1
        simp only [Option.some.injEq, Prod.mk.injEq] at h
        obtain ⟨rfl, rfl⟩ := h
        exact ⟨by omega, by omega, key _ h1⟩
      · cases h
theorem runeL_nil : runeL [] = none := by
  unfold runeL
  rw [rtry_len (by simp), rtry_len (by simp), rtry_len (by simp)]
  simp
theorem runeB_ne {r : Int} (h : shows r = true) : runeB r ≠ [] := by
  unfold runeB
  rw [h]
  (repeat' split) <;> simp_all
/-! the begin of a rune -/
def runeBeg : List UInt8 → Bool
  | [a] => within a.toNat 194 239
  | [a, b] => decide (b.toNat / 64 = 2) && decide (224 ≤ a.toNat) && decide (2048 ≤ ((a.toNat : Int) - 224) * 4096 + (b.toNat % 64 : Nat) * 64) && shows (((a.toNat : Int) - 224) * 4096 + (b.toNat % 64 : Nat) * 64)
  | _ => false
theorem rvS_iff {a : UInt8} {l : List UInt8} {s : Nat} (hs : s = 2 ∨ s = 3) : rvS (runeL (a :: l)) = s ↔ rtry (a :: l) s = true := by
  rw [runeL_cls]
  have h1 := @rtry1 a l
  have h2 : rtry (a :: l) 2 = true → 194 ≤ a.toNat ∧ a.toNat ≤ 223 := by
    intro h
    cases l with
    | nil => rw [rtry_len (by simp)] at h; cases h
    | cons b r => have := rtry2.1 h; omega
  have h3 : rtry (a :: l) 3 = true → 224 ≤ a.toNat ∧ a.toNat ≤ 239 := by
    intro h
    match l with
    | [] => rw [rtry_len (by simp)] at h; cases h
    | [b] => rw [rtry_len (by simp)] at h; cases h
    | b :: c :: r => have := rtry3.1 h; omega
  constructor
  · intro h
    split at h
    · rename_i hh
      simp only [rvS] at h
      rw [← h]; exact hh
    · simp only [rvS] at h; omega
  · intro h
    have e : rcls a = s := by
      unfold rcls
      rcases hs with rfl | rfl
      · have := h2 h
        rw [if_pos (by omega)]
      · have := h3 h
        rw [if_neg (by omega), if_pos (by omega)]
    rw [e, if_pos h]
    rfl
def begHit (l : List UInt8) (x : UInt8) : Bool := decide (rvS (runeL (l ++ [x])) = l.length + 1) || (decide (l.length = 1) && decide (rvS (runeL (l ++ [x, 129])) = 3))
theorem beg_iff {l : List UInt8} (hl : l.length = 1 ∨ l.length = 2) : runeBeg l = true ↔ ∃ x : Nat, 128 ≤ x ∧ x < 192 ∧ begHit l (UInt8.ofNat x) = true := by
  have hof : ∀ x : Nat, x < 256 → (UInt8.ofNat x).toNat = x := fun x hx => by rw [UInt8.toNat_ofNat', Nat.mod_eq_of_lt hx]
  have h129 : (129 : UInt8).toNat = 129 := rfl
  match l, hl with
  | [a], _ =>
    have ha := a.toNat_lt
    have hb : ∀ x, begHit [a] x = true ↔ rtry [a, x] 2 = true ∨ rtry [a, x, 129] 3 = true := fun x => by
      simp only [begHit, List.length_singleton, List.singleton_append, Bool.or_eq_true, Bool.and_eq_true, decide_eq_true_eq, true_and]
      rw [← rvS_iff (.inl rfl), ← rvS_iff (.inr rfl)]
    simp only [runeBeg, within_iff]
    constructor
    · intro h
      by_cases h2 : a.toNat ≤ 223
      · refine ⟨191, by omega, by omega, (hb _).2 (.inl (rtry2.2 ?_))⟩
        rw [hof _ (by omega)]
        omega
      · by_cases h3 : a.toNat = 237
        · refine ⟨159, by omega, by omega, (hb _).2 (.inr (rtry3.2 ?_))⟩
          rw [hof _ (by omega), h129, shows_iff]
          omega
        · refine ⟨191, by omega, by omega, (hb _).2 (.inr (rtry3.2 ?_))⟩
          rw [hof _ (by omega), h129, shows_iff]
          omega
    · rintro ⟨x, h1, h2, h3⟩
      rcases (hb _).1 h3 with h4 | h4
      · have := rtry2.1 h4; omega
      · have := rtry3.1 h4; omega
  | [a, b], _ =>
    have ha := a.toNat_lt
    have hbt := b.toNat_lt
    have hb : ∀ x, begHit [a, b] x = true ↔ rtry [a, b, x] 3 = true := fun x => by
      simp only [begHit, List.length_cons, List.length_nil, List.cons_append, List.nil_append, Bool.or_eq_true, Bool.and_eq_true, decide_eq_true_eq]
      rw [← rvS_iff (.inr rfl)]
      simp
    simp only [runeBeg, Bool.and_eq_true, decide_eq_true_eq, shows_iff]
    constructor
    · intro h
      refine ⟨128, by omega, by omega, (hb _).2 (rtry3.2 ?_)⟩
      rw [hof _ (by omega), shows_iff]
      omega
    · rintro ⟨x, h1, h2, h3⟩
      have := rtry3.1 ((hb _).1 h3)
      rw [hof _ (by omega), shows_iff] at this
      omega
/-! the parser -/
abbrev vp0 : VpD := ⟨0, false, [], []⟩
abbrev act0 : ActD := ⟨0, 0, false, []⟩
def areArgs (l : List Int) : Bool := decide (l.length ≤ 8) && l.all fun n => within n 0 9999
def vpOk (v : VpD) : Bool :=
  if v.State = 0 then (!v.Mark && decide (v.Args.length = 0)) && (decide (v.Part.length = 0) || runeBeg v.Part)
  else if v.State = 1 then (!v.Mark && decide (v.Args.length = 0)) && decide (v.Part.length = 0)
  else if v.State = 2 ∨ v.State = 3 then areArgs v.Args && decide (v.Part.length = 0) else false
def vpPlain (part : List UInt8) (b : Int) : VpD × ActD :=
  if b < 32 ∨ b = 127 then (vp0, ⟨2, b, false, []⟩) else if b < 127 then (vp0, ⟨1, b, false, []⟩)
  else if rvS (runeL (part ++ [ub b])) = (part ++ [ub b]).length then (vp0, ⟨1, rvN (runeL (part ++ [ub b])), false, []⟩)
  else if runeBeg (part ++ [ub b]) = true then (⟨0, false, [], part ++ [ub b]⟩, act0) else (vp0, ⟨1, 65533, false, []⟩)
def args1 (l : List Int) : List Int := if l.length = 0 then [0] else l
def vpDigit (v : VpD) (d : Int) : VpD := { v with Args := (args1 v.Args).set ((args1 v.Args).length - 1) (min 9999 (10 * iat (args1 v.Args) ((args1 v.Args).length - 1) + d)) }
def vpNext (v : VpD) : VpD := if (args1 v.Args).length + 1 > 8 then { v with State := 3, Args := (args1 v.Args ++ [0]).take 8 } else { v with Args := args1 v.Args ++ [0] }
def vpCsi (v : VpD) (b : Int) : VpD × ActD :=
  if (b = 63 ∧ v.Args.length = 0) ∧ v.Mark = false then ({ v with Mark := true }, act0)
  else if 48 ≤ b ∧ b ≤ 57 then (vpDigit v (b - 48), act0)
  else if b = 59 then (vpNext v, act0)
  else if 64 ≤ b ∧ b ≤ 126 then (vp0, ⟨4, b, v.Mark, v.Args⟩)
  else if b < 32 ∨ b = 127 then (v, ⟨2, b, false, []⟩)
  else ({ v with State := 3 }, act0)
def vpStep (v : VpD) (b : Int) : VpD × ActD :=
  if b = 27 then (⟨1, false, [], []⟩, act0) else if b = 24 ∨ b = 26 then (vp0, act0)
  else if v.State = 0 then vpPlain v.Part b
  else if v.State = 1 then (if b = 91 then (⟨2, false, [], []⟩, act0) else if 48 ≤ b ∧ b ≤ 126 then (vp0, ⟨3, b, false, []⟩) else (vp0, act0))
  else if v.State = 2 then vpCsi v b
  else if 64 ≤ b ∧ b ≤ 126 then (vp0, act0) else (v, act0)
def vpByte (v : VpD) (b : Int) : VpD × ActD := if vpOk v = true ∧ 0 ≤ b ∧ b ≤ 255 then vpStep v b else (vp0, act0)
theorem areArgs_iff {l : List Int} : areArgs l = true ↔ l.length ≤ 8 ∧ ∀ x, x ∈ l → 0 ≤ x ∧ x ≤ 9999 := by
  simp only [areArgs, Bool.and_eq_true, decide_eq_true_eq, List.all_eq_true, within_iff]
theorem args1_iff {l : List Int} (h : areArgs l = true) : areArgs (args1 l) = true ∧ 1 ≤ (args1 l).length := by
  unfold args1
  split
  · exact ⟨by decide, by simp⟩
  · exact ⟨h, by omega⟩
theorem vpDigit_ok {v : VpD} {d : Int} (h : areArgs v.Args = true) (hd : 0 ≤ d ∧ d ≤ 9) : areArgs (vpDigit v d).Args = true := by
  obtain ⟨h1, h2⟩ := args1_iff h
  rw [areArgs_iff] at h1 ⊢
  simp only [vpDigit, List.length_set]
  refine ⟨h1.1, fun x hx => ?_⟩
  rcases List.mem_or_eq_of_mem_set hx with hx | rfl
  · exact h1.2 x hx
  · have := h1.2 _ (gat_mem (F := encI) (show (args1 v.Args).length - 1 < (args1 v.Args).length by omega))
    have e : iat (args1 v.Args) ((args1 v.Args).length - 1) = gat encI (args1 v.Args) ((args1 v.Args).length - 1) := rfl
    rw [e]; omega
theorem vpNext_ok {v : VpD} (h : areArgs v.Args = true) : areArgs (vpNext v).Args = true := by
  obtain ⟨h1, h2⟩ := args1_iff h
  rw [areArgs_iff] at h1 ⊢
  unfold vpNext
  split
  · refine ⟨by simp; omega, fun x hx => ?_⟩
    have := List.mem_of_mem_take hx
    rcases List.mem_append.1 this with hx | hx
    · exact h1.2 x hx
    · simp at hx; omega
  · refine ⟨by simp; omega, fun x hx => ?_⟩
    rcases List.mem_append.1 hx with hx | hx
    · exact h1.2 x hx
    · simp at hx; omega
theorem vpOk_plain {p : List UInt8} (h : p = [] ∨ runeBeg p = true) : vpOk ⟨0, false, [], p⟩ = true := by
  unfold vpOk
  rw [if_pos rfl]
  rcases h with rfl | h
  · rfl
  · simp [h]
theorem vpOk_csi {v : VpD} (hs : v.State = 2 ∨ v.State = 3) : vpOk v = (areArgs v.Args && decide (v.Part.length = 0)) := by
  unfold vpOk
  rw [if_neg (by omega), if_neg (by omega), if_pos hs]
theorem vpPlain_ok {p : List UInt8} {b : Int} : vpOk (vpPlain p b).1 = true := by
  unfold vpPlain
  (repeat' split)
  · rfl
  · rfl
  · rfl
  · rename_i h; exact vpOk_plain (.inr h)
  · rfl
theorem vpCsi_ok {v : VpD} {b : Int} (hs : v.State = 2) (h : vpOk v = true) : vpOk (vpCsi v b).1 = true := by
  have h2 := h
  rw [vpOk_csi (.inl hs), Bool.and_eq_true] at h2
  have key : ∀ v' : VpD, (v'.State = 2 ∨ v'.State = 3) → areArgs v'.Args = true → v'.Part = v.Part → vpOk v' = true := fun v' g1 g2 g3 => by
    rw [vpOk_csi g1, Bool.and_eq_true, g3]; exact ⟨g2, h2.2⟩
  unfold vpCsi
  (repeat' split)
  · exact key _ (.inl hs) h2.1 rfl
  · exact key _ (.inl hs) (vpDigit_ok h2.1 (by omega)) rfl
  · refine key _ ?_ (vpNext_ok h2.1) ?_
    · unfold vpNext; split <;> simp [hs]
    · unfold vpNext; split <;> rfl
  · rfl
  · exact h
  · exact key _ (.inr rfl) h2.1 rfl
theorem vpStep_ok {v : VpD} {b : Int} (h : vpOk v = true) : vpOk (vpStep v b).1 = true := by
  unfold vpStep
  (repeat' split)
  · rfl
  · rfl
  · exact vpPlain_ok
  · rfl
  · rfl
  · rfl
  · rename_i hs; exact vpCsi_ok hs h
  · rfl
  · exact h
/-- Byte after byte. -/
def vpParse : VpD → List UInt8 → VpD × List ActD
  | v, [] => (v, [])
  | v, x :: r => ((vpParse (vpStep v x.toNat).1 r).1, (if (vpStep v x.toNat).2.Kind = 0 then [] else [(vpStep v x.toNat).2]) ++ (vpParse (vpStep v x.toNat).1 r).2)
theorem vpParse_snoc : ∀ {l : List UInt8} {v : VpD} {x : UInt8}, vpParse v (l ++ [x]) = ((vpStep (vpParse v l).1 x.toNat).1, (vpParse v l).2 ++ (if (vpStep (vpParse v l).1 x.toNat).2.Kind = 0 then [] else [(vpStep (vpParse v l).1 x.toNat).2]))
  | [], v, x => by
    show (_, _ ++ []) = (_, [] ++ _)
    rw [List.append_nil, List.nil_append]; rfl
  | y :: r, v, x => by
    have h := vpParse_snoc (l := r) (v := (vpStep v y.toNat).1) (x := x)
    show ((vpParse _ (r ++ [x])).1, _ ++ (vpParse _ (r ++ [x])).2) = (_, (_ ++ _) ++ _)
    rw [h, List.append_assoc]; rfl
theorem vpParse_take {v : VpD} {l : List UInt8} {i : Nat} (h : i < l.length) : vpParse v (l.take (i + 1)) = ((vpStep (vpParse v (l.take i)).1 (gat encB l i).toNat).1, (vpParse v (l.take i)).2 ++ (if (vpStep (vpParse v (l.take i)).1 (gat encB l i).toNat).2.Kind = 0 then [] else [(vpStep (vpParse v (l.take i)).1 (gat encB l i).toNat).2])) := by
  rw [List.take_add_one, gat_get (F := encB) h]
  exact vpParse_snoc
theorem vpParse_ok : ∀ {l : List UInt8} {v : VpD}, vpOk v = true → vpOk (vpParse v l).1 = true
  | [], v, h => h
  | y :: r, v, h => vpParse_ok (l := r) (vpStep_ok h)
theorem vpParse_len : ∀ {l : List UInt8} {v : VpD}, (vpParse v l).2.length ≤ l.length
  | [], v => by simp [vpParse]
  | y :: r, v => by
    have h := vpParse_len (l := r) (v := (vpStep v y.toNat).1)
    simp only [vpParse, List.length_append, List.length_cons]
    split <;> simp <;> omega
theorem vpOk_len {v : VpD} (h : vpOk v = true) : v.Args.length ≤ 8 ∧ v.Part.length ≤ 2 := by
  unfold vpOk at h
  split at h
  · simp only [Bool.and_eq_true, Bool.or_eq_true, decide_eq_true_eq] at h
    refine ⟨by omega, ?_⟩
    rcases h.2 with h2 | h2
    · omega
    · match hp : v.Part with
      | [] => simp
      | [a] => simp
      | [a, b] => simp
      | a :: b :: c :: r => rw [hp] at h2; cases h2
  · split at h
    · simp only [Bool.and_eq_true, decide_eq_true_eq] at h
      omega
    · split at h
      · rw [Bool.and_eq_true, areArgs_iff, decide_eq_true_eq] at h
        omega
      · cases h
def vpBytes (v : VpD) (l : List UInt8) : VpD × List ActD := if vpOk v = true then vpParse v l else (vp0, [])
end Go.Proofs.Ytlmcekfdlgkffaa
