/-
  Plain laws: attributes, cells, runs of cells.
-/
import Derived.Test.YtpiimkfonlijdaaM2
namespace Go.Proofs.Ytpiimkfonlijdaa
open Go Go.RowKit
set_option linter.unusedVariables false
set_option linter.unusedSimpArgs false

/-- The first place whose element has a property; -1 where there is none. -/
def findI {α : Type} (p : α → Bool) (xs : List α) : Int := match xs.findIdx? p with | some i => (i : Int) | none => -1
theorem findI_some {α : Type} {F : Enc α} {p : α → Bool} {xs : List α} {i : Nat} (hi : i < xs.length) (h : ∀ j, j < i → p (gat F xs j) = false) (hp : p (gat F xs i) = true) : findI p xs = i := by
  have e : ∀ j (hj : j < xs.length), gat F xs j = xs[j] := fun j hj => by
    have := gat_get (F := F) hj
    rw [List.getElem?_eq_getElem hj] at this
    exact (Option.some.inj this).symm
  have : xs.findIdx? p = some i := by
    rw [List.findIdx?_eq_some_iff_getElem]
    refine ⟨hi, by rw [← e i hi]; exact hp, fun j hj => ?_⟩
    rw [← e j (by omega), h j hj]
    simp
  simp [findI, this]
theorem findI_none {α : Type} {F : Enc α} {p : α → Bool} {xs : List α} (h : ∀ j, j < xs.length → p (gat F xs j) = false) : findI p xs = -1 := by
  have : xs.findIdx? p = none := by
    rw [List.findIdx?_eq_none_iff]
    intro x hx
    obtain ⟨i, hi, rfl⟩ := List.mem_iff_getElem.1 hx
    have e := gat_get (F := F) hi
    rw [List.getElem?_eq_getElem hi] at e
    rw [Option.some.inj e]
    exact h i hi
  simp [findI, this]
theorem findI_cases {α : Type} {p : α → Bool} {xs : List α} : (findI p xs = -1 ∧ ∀ x, x ∈ xs → p x = false) ∨ ∃ i, ∃ h : i < xs.length, findI p xs = (i : Int) ∧ p xs[i] = true ∧ ∀ j, (hj : j < i) → p (xs[j]'(by omega)) = false := by
  cases e : xs.findIdx? p with
  | none => exact Or.inl ⟨by simp [findI, e], List.findIdx?_eq_none_iff.1 e⟩
  | some i =>
    obtain ⟨h1, h2, h3⟩ := List.findIdx?_eq_some_iff_getElem.1 e
    exact Or.inr ⟨i, h1, by simp [findI, e], h2, fun j hj => by simpa using h3 j hj⟩
def attrOk (fg bg : Int) : Bool := within fg 0 8 && within bg 0 8
def attrNum (a : AttrD) : Int :=
  if attrOk a.Fg a.Bg = true then 72 * a.Bg + 8 * a.Fg + (if a.Bold = true then 1 else 0) + (if a.Under = true then 2 else 0) + (if a.Turn = true then 4 else 0) else -1
def cellOk (c : CellD) : Bool := shows c.R && attrOk c.A.Fg c.A.Bg
theorem cellOk_bounds {c : CellD} (h : cellOk c = true) : 0 ≤ c.R ∧ c.R ≤ 65535 ∧ attrOk c.A.Fg c.A.Bg = true ∧ 0 ≤ attrNum c.A ∧ attrNum c.A ≤ 647 := by
  simp only [cellOk, Bool.and_eq_true] at h
  obtain ⟨h1, h2⟩ := h
  have h3 := h2
  simp [shows, within, attrOk] at h1 h2
  refine ⟨by omega, by omega, h3, ?_, ?_⟩ <;> unfold attrNum <;> rw [if_pos h3] <;> (repeat' split) <;> omega
/-- One run: how many, then the cell. -/
def runB (n : Nat) (c : CellD) : List UInt8 := varL n ++ varL c.R.toNat ++ varL (attrNum c.A).toNat
def cellsGo : Nat → List CellD → List UInt8
  | _, [] => []
  | n, c :: l => if l.head? = some c then cellsGo (n + 1) l else runB (n + 1) c ++ cellsGo 0 l
def cellsB (l : List CellD) : List UInt8 := cellsGo 0 l
def cellsOk (l : List CellD) : Bool := l.all cellOk
def cellsFine (l : List CellD) : Bool := decide (l.length ≤ 4000) && cellsOk l
def cellsOut (l : List CellD) : List UInt8 := if cellsFine l = true then cellsB l else []
theorem gat_drop {l : List CellD} {i : Nat} (h : i < l.length) : l.drop i = gat encCell l i :: l.drop (i + 1) := by
  rw [List.drop_eq_getElem_cons h]; congr 1; have := gat_get (F := encCell) h; rw [List.getElem?_eq_getElem h] at this; exact Option.some.inj this
theorem cellsGo_step {n i : Nat} {l : List CellD} (h : i < l.length) : cellsGo n (l.drop i) = if i + 1 < l.length ∧ gat encCell l (i + 1) = gat encCell l i then cellsGo (n + 1) (l.drop (i + 1)) else runB (n + 1) (gat encCell l i) ++ cellsGo 0 (l.drop (i + 1)) := by
  rw [gat_drop h, cellsGo]
  by_cases h1 : i + 1 < l.length
  · rw [gat_drop h1]
    simp [h1]
  · rw [List.drop_eq_nil_of_le (by omega)]
    simp [h1]
theorem cellsGo_run : ∀ (m n i : Nat) {l : List CellD}, i + m < l.length → (∀ j, j ≤ m → gat encCell l (i + j) = gat encCell l i) → (i + m + 1 < l.length → gat encCell l (i + m + 1) ≠ gat encCell l i) →
    cellsGo n (l.drop i) = runB (n + m + 1) (gat encCell l i) ++ cellsGo 0 (l.drop (i + m + 1))
  | 0, n, i, l, h, _, h2 => by
    simp only [Nat.add_zero] at h h2 ⊢
    rw [cellsGo_step h, if_neg (fun hh => h2 hh.1 hh.2)]
  | m + 1, n, i, l, h, h1, h2 => by
    have e1 := h1 1 (by omega)
    rw [cellsGo_step (by omega), if_pos ⟨by omega, e1⟩, cellsGo_run m (n + 1) (i + 1) (by omega) (fun j hj => by
      have := h1 (1 + j) (by omega)
      rw [Nat.add_assoc, this, e1]) (by
      rw [e1, show i + 1 + m + 1 = i + (m + 1) + 1 by omega]; exact h2)]
    rw [e1, show i + 1 + m + 1 = i + (m + 1) + 1 by omega, show n + 1 + m + 1 = n + (m + 1) + 1 by omega]
theorem runB_len {n : Nat} {c : CellD} (h : n ≤ 4000) (hc : cellOk c = true) : (runB n c).length ≤ 15 := by
  have hb := cellOk_bounds hc
  have h1 := varL_len n (by omega)
  have h2 := varL_len c.R.toNat (by omega)
  have h3 := varL_len (attrNum c.A).toNat (by omega)
  simp only [runB, List.length_append]
  omega
theorem cellsGo_len : ∀ {l : List CellD} {n : Nat}, n + l.length ≤ 4000 → cellsOk l = true → (cellsGo n l).length ≤ 15 * l.length
  | [], n, _, _ => by simp [cellsGo]
  | c :: l, n, h, hc => by
    simp only [List.length_cons] at h
    simp only [cellsOk, List.all_cons, Bool.and_eq_true] at hc
    rw [cellsGo]
    split
    · have := cellsGo_len (l := l) (n := n + 1) (by omega) hc.2
      simp only [List.length_cons]; omega
    · have h1 := cellsGo_len (l := l) (n := 0) (by omega) hc.2
      have h2 := runB_len (n := n + 1) (by omega) hc.1
      simp only [List.length_append, List.length_cons]; omega
theorem cellsB_len {l : List CellD} (h : l.length ≤ 4000) (hc : cellsOk l = true) : (cellsB l).length ≤ 15 * l.length := cellsGo_len (by omega) hc
theorem cellsOk_gat {l : List CellD} {i : Nat} (h : cellsOk l = true) (hi : i < l.length) : cellOk (gat encCell l i) = true := by
  unfold cellsOk at h
  rw [List.all_eq_true] at h
  exact h _ (gat_mem hi)
theorem cellsOk_not {l : List CellD} {i : Nat} (hi : i < l.length) (h : cellOk (gat encCell l i) = false) : cellsOk l = false := by
  cases e : cellsOk l with
  | false => rfl
  | true => rw [cellsOk_gat e hi] at h; cases h
theorem cellsOk_all {l : List CellD} (h : ∀ i, i < l.length → cellOk (gat encCell l i) = true) : cellsOk l = true := by
  unfold cellsOk
  rw [List.all_eq_true]
  intro x hx
  obtain ⟨i, hi, rfl⟩ := List.mem_iff_getElem.1 hx
  have e := gat_get (F := encCell) hi
  rw [List.getElem?_eq_getElem hi] at e
  rw [Option.some.inj e]
  exact h i hi
theorem cellsOk_find {l : List CellD} : (!decide (0 ≤ findI (fun c => !cellOk c) l)) = cellsOk l := by
  rcases findI_cases (p := fun c => !cellOk c) (xs := l) with ⟨h1, h2⟩ | ⟨i, hi, h1, h2, _⟩
  · rw [h1]
    have : cellsOk l = true := by
      unfold cellsOk
      rw [List.all_eq_true]
      intro x hx
      simpa using h2 x hx
    rw [this]; decide
  · rw [h1]
    have : cellsOk l = false := by
      rw [← Bool.not_eq_true]
      intro h
      unfold cellsOk at h
      rw [List.all_eq_true] at h
      have := h _ (List.getElem_mem hi)
      simp [this] at h2
    rw [this]
    simp
theorem cellsOut_len (l : List CellD) : (cellsOut l).length ≤ 60000 := by
  unfold cellsOut
  split
  · rename_i h
    simp [cellsFine] at h
    have := cellsB_len h.1 h.2
    omega
  · simp
theorem or8 {q m r k : Nat} (hq : q = 8 * m + r) (hr : r < 2 ^ k) (hk : k < 3) : q ||| 2 ^ k = q + 2 ^ k := by
  have hk2 : 2 ^ k ≤ 4 := by
    rcases k with _ | _ | _ | k
    · decide
    · decide
    · decide
    · omega
  have e1 : 8 * m + r = 8 * m ||| r := Nat.two_pow_add_eq_or_of_lt (i := 3) (by omega) m
  have e2 : r ||| 2 ^ k = r + 2 ^ k := by
    rcases k with _ | _ | _ | k
    · have : r = 0 := by omega
      subst this; decide
    · have : r = 0 ∨ r = 1 := by omega
      rcases this with rfl | rfl <;> decide
    · have : r = 0 ∨ r = 1 ∨ r = 2 ∨ r = 3 := by omega
      rcases this with rfl | rfl | rfl | rfl <;> decide
    · omega
  have e3 : 8 * m + (r + 2 ^ k) = 8 * m ||| (r + 2 ^ k) := Nat.two_pow_add_eq_or_of_lt (i := 3) (by omega) m
  rw [hq, e1, Nat.or_assoc, e2, ← e3, ← e1]
  omega
/-- What the first bits of an attribute add. -/
def attrBits (a : AttrD) (i : Nat) : Int := (if 0 < i ∧ a.Bold = true then 1 else 0) + (if 1 < i ∧ a.Under = true then 2 else 0) + (if 2 < i ∧ a.Turn = true then 4 else 0)
theorem attrNum_bits {a : AttrD} (h : attrOk a.Fg a.Bg = true) : attrNum a = 72 * a.Bg + 8 * a.Fg + attrBits a 3 := by
  unfold attrNum attrBits
  rw [if_pos h]
  simp; omega
theorem attrBits_set {fg bg q : Int} {bo un tu : Bool} {i : Nat} (hfg : 0 ≤ fg) (hbg : 0 ≤ bg) (h : q = 72 * bg + 8 * fg + attrBits ⟨fg, bg, bo, un, tu⟩ i) (hi : i < 3) (hb : gat encT [bo, un, tu] i = true) :
    ((q.toNat ||| (1 * 2 ^ i : Int).toNat : Nat) : Int) = 72 * bg + 8 * fg + attrBits ⟨fg, bg, bo, un, tu⟩ (i + 1) := by
  have e : ((1 * 2 ^ i : Int).toNat : Nat) = 2 ^ i := by rcases i with _ | _ | _ | i <;> first | rfl | omega
  have hr : ∃ r : Nat, attrBits ⟨fg, bg, bo, un, tu⟩ i = (r : Int) ∧ r < 2 ^ i := by
    rcases i with _ | _ | _ | i
    · exact ⟨0, by simp [attrBits], by decide⟩
    · cases bo
      · exact ⟨0, by simp [attrBits], by decide⟩
      · exact ⟨1, by simp [attrBits], by decide⟩
    · cases bo <;> cases un
      · exact ⟨0, by simp [attrBits], by decide⟩
      · exact ⟨2, by simp [attrBits], by decide⟩
      · exact ⟨1, by simp [attrBits], by decide⟩
      · exact ⟨3, by simp [attrBits], by decide⟩
    · omega
  obtain ⟨r, hr1, hr2⟩ := hr
  rw [e, or8 (m := (9 * bg + fg).toNat) (r := r) (by omega) hr2 hi]
  have hn : attrBits ⟨fg, bg, bo, un, tu⟩ (i + 1) = attrBits ⟨fg, bg, bo, un, tu⟩ i + ((2 ^ i : Nat) : Int) := by
    rcases i with _ | _ | _ | i
    · simp [gat] at hb; simp [attrBits, hb]
    · simp [gat] at hb; simp [attrBits, hb]
    · simp [gat] at hb; simp [attrBits, hb]
    · omega
  rw [hn]
  omega
theorem attrBits_skip {fg bg : Int} {bo un tu : Bool} {i : Nat} (hi : i < 3) (hb : gat encT [bo, un, tu] i = false) : attrBits ⟨fg, bg, bo, un, tu⟩ (i + 1) = attrBits ⟨fg, bg, bo, un, tu⟩ i := by
  rcases i with _ | _ | _ | i
  · simp [gat] at hb; simp [attrBits, hb]
  · simp [gat] at hb; simp [attrBits, hb]
  · simp [gat] at hb; simp [attrBits, hb]
  · omega
end Go.Proofs.Ytpiimkfonlijdaa
