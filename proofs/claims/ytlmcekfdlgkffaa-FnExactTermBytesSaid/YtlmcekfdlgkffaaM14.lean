/- Screens that keep rows. -/
import Derived.Test.YtlmcekfdlgkffaaD2
import Derived.Test.YtlmcekfdlgkffaaM13
namespace Go.Proofs.Ytlmcekfdlgkffaa
open Go Go.RowKit
set_option linter.unusedVariables false
set_option linter.unusedSimpArgs false
theorem smScr_mono {B B' : Nat} {s : ScrD} (h : smScr B s) (hB : B ≤ B') : smScr B' s := ⟨Nat.le_trans h.1 hB, Nat.le_trans h.2.1 hB, Nat.le_trans h.2.2.1 hB, Nat.le_trans h.2.2.2.1 hB, fun y hy => Nat.le_trans (h.2.2.2.2 y hy) hB⟩
theorem rowAt_len {g : GridD} {i : Nat} : (rowAt g i).Cells.length ≤ g.W.toNat := by
  unfold rowAt
  rw [List.length_take]
  exact Nat.min_le_left _ _
def keepTo (s : ScrD) (n : Nat) : ScrD := { s with Back := s.Back ++ (List.range n).map (rowAt s.Main) }
theorem keepTo_zero {s : ScrD} : keepTo s 0 = s := by
  unfold keepTo
  rw [show (List.range 0).map (rowAt s.Main) = [] from rfl, List.append_nil]
theorem keepTo_succ {s : ScrD} {n : Nat} {r : RowD} (h : r = rowAt s.Main n) : keepTo s (n + 1) = { keepTo s n with Back := (keepTo s n).Back ++ [r] } := by
  subst h
  unfold keepTo
  rw [range_snoc, ← List.append_assoc]
theorem keepTo_sm {s : ScrD} {n B : Nat} (h : smScr B s) (hg : gridOk s.Main = true) (hl : s.Back.length + n ≤ B) (hB : 120 ≤ B) : smScr B (keepTo s n) := by
  refine ⟨h.1, h.2.1, h.2.2.1, by simp only [keepTo, List.length_append, List.length_map, List.length_range]; exact hl, fun y hy => ?_⟩
  rcases List.mem_append.1 hy with hy | hy
  · exact h.2.2.2.2 y hy
  · obtain ⟨i, _, rfl⟩ := List.mem_map.1 hy
    have h1 := gridOk_bnd hg
    exact Nat.le_trans rowAt_len (by omega)
theorem keepTo_drop {s d : ScrD} {n k : Nat} (h : d = keepTo s n) (hk : k = d.Back.length - s.Limit.toNat) : { d with Back := d.Back.drop k } = keepRows s n := by subst h; subst hk; rfl
theorem keepTo_all {s d : ScrD} {n : Nat} (h : d = keepTo s n) (hk : d.Back.length ≤ s.Limit.toNat) : d = keepRows s n := by
  subst h
  unfold keepRows
  rw [lastN_all (l := s.Back ++ List.map (rowAt s.Main) (List.range n)) hk]; rfl
theorem keepRows_sm {s : ScrD} {n B : Nat} (h : smScr B s) (hg : gridOk s.Main = true) (hB : 120 ≤ B) (hl : s.Limit.toNat ≤ B) : smScr B (keepRows s n) := by
  refine ⟨h.1, h.2.1, h.2.2.1, by simp only [keepRows]; rw [lastN_len]; omega, fun y hy => ?_⟩
  have hy' := List.mem_of_mem_drop hy
  rcases List.mem_append.1 hy' with hy | hy
  · exact h.2.2.2.2 y hy
  · obtain ⟨i, _, rfl⟩ := List.mem_map.1 hy
    have h1 := gridOk_bnd hg
    exact Nat.le_trans rowAt_len (by omega)
theorem ownScrR.lens {r : ScrR} {L : Hp} (h : ownScrR r L) : (r.Main.Cells.xs.length = r.Main.Cells.n ∧ r.Main.Cells.n ≤ r.Main.Cells.c) ∧ (r.Alt.Cells.xs.length = r.Alt.Cells.n ∧ r.Alt.Cells.n ≤ r.Alt.Cells.c) ∧ (r.Tabs.xs.length = r.Tabs.n ∧ r.Tabs.n ≤ r.Tabs.c) ∧ (r.Back.xs.length = r.Back.n ∧ r.Back.n ≤ r.Back.c) := by
  obtain ⟨L1, L2, L3, L4, rfl, o1, o2, o3, o4⟩ := h
  exact ⟨⟨OwnF.len_ o1, OwnF.cap o1⟩, ⟨OwnF.len_ o2, OwnF.cap o2⟩, ⟨OwnF.len_ o3, OwnF.cap o3⟩, ⟨OwnN.len_ o4, OwnN.cap o4⟩⟩
def keepOne (s : ScrD) (y : Nat) : ScrD := { s with Back := lastN s.Limit.toNat (s.Back ++ [rowAt s.Main y]) }
theorem keepOne_succ {s : ScrD} {n : Nat} : keepOne (keepRows s n) n = keepRows s (n + 1) := keepRows_succ.symm
theorem keepOne_drop {s : ScrD} {y k : Nat} (hk : k = s.Back.length + 1 - s.Limit.toNat) : { s with Back := (s.Back ++ [rowAt s.Main y]).drop k } = keepOne s y := by
  unfold keepOne lastN
  rw [hk, List.length_append]; rfl
theorem keepOne_all {s : ScrD} {y : Nat} (hk : s.Back.length + 1 ≤ s.Limit.toNat) : { s with Back := s.Back ++ [rowAt s.Main y] } = keepOne s y := by
  unfold keepOne
  rw [lastN_all (by rw [List.length_append]; exact hk)]
theorem keepOne_sm {s : ScrD} {y B : Nat} (h : smScr B s) (hg : gridOk s.Main = true) (hB : 120 ≤ B) (hl : s.Limit.toNat ≤ B) : smScr B (keepOne s y) := by
  refine ⟨h.1, h.2.1, h.2.2.1, by simp only [keepOne]; rw [lastN_len]; omega, fun z hz => ?_⟩
  have hy' := List.mem_of_mem_drop hz
  rcases List.mem_append.1 hy' with hy | hy
  · exact h.2.2.2.2 z hy
  · rcases List.mem_singleton.1 hy with rfl
    have h1 := gridOk_bnd hg
    exact Nat.le_trans rowAt_len (by omega)
theorem gridFit_ok {g : GridD} {w h : Int} (hf : gridFit g w h = true) : gridOk g = true := by
  unfold gridFit at hf
  rw [Bool.and_eq_true] at hf
  exact hf.1
theorem scrOk_P {s : ScrD} (h : scrOk s = true) : scrP1 s = true ∧ scrP2 s = true ∧ scrP3 s = true ∧ scrP4 s = true ∧ isAsc s.Tabs 0 (s.W - 1) = true ∧ s.Back.all rowOk = true := by
  unfold scrOk scrIn at h
  simp only [Bool.and_eq_true] at h
  exact ⟨h.1.1.1.1, h.1.1.1.2, h.1.1.2.1, h.1.1.2.2, h.1.2, h.2⟩
theorem scrOk_main {s : ScrD} (h : scrOk s = true) : gridOk s.Main = true ∧ gridOk s.Alt = true := by
  have h1 := (scrOk_P h).1
  unfold scrP1 at h1
  rw [Bool.and_eq_true] at h1
  exact ⟨gridFit_ok h1.1, gridFit_ok h1.2⟩
theorem scrOk_bnd {s : ScrD} (h : scrOk s = true) : ((1 ≤ s.W ∧ s.W ≤ 120) ∧ (1 ≤ s.H ∧ s.H ≤ 120) ∧ s.Main.W = s.W ∧ s.Main.H = s.H ∧ s.Alt.W = s.W ∧ s.Alt.H = s.H) ∧ ((0 ≤ s.X ∧ s.X < s.W) ∧ 0 ≤ s.Y ∧ s.Y < s.H) ∧ ((0 ≤ s.SaveX ∧ s.SaveX < s.W) ∧ 0 ≤ s.SaveY ∧ s.SaveY < s.H) ∧ (0 ≤ s.Top ∧ s.Top ≤ s.Bot ∧ s.Bot < s.H) ∧ (0 ≤ s.Limit ∧ s.Limit ≤ 100) ∧ (s.Back.length : Int) ≤ s.Limit := by
  obtain ⟨h1, h2, h3, h4, _, _⟩ := scrOk_P h
  have b := scrP1_bnd h1
  unfold scrP2 gridHas at h2
  unfold scrP3 at h3
  unfold scrP4 at h4
  simp only [Bool.and_eq_true, within_iff, decide_eq_true_eq] at h2 h3 h4
  omega
theorem gridOk_new {w h : Int} (hs : isSize w h = true) : gridOk (gridNew w h) = true := by
  obtain ⟨h1, h2, h3, h4⟩ := isSize_bnd hs
  unfold gridOk
  rw [Bool.and_eq_true, Bool.and_eq_true]
  refine ⟨⟨hs, ?_⟩, ?_⟩
  · rw [decide_eq_true_eq]
    show ((List.replicate (w * h).toNat blankC).length : Int) = w * h
    rw [List.length_replicate]; omega
  · show cellsOk (List.replicate (w * h).toNat blankC) = true
    unfold cellsOk
    rw [List.all_eq_true]
    intro x hx
    rw [List.mem_replicate] at hx
    rw [hx.2]; decide
theorem gridNew_sm {w h : Int} {B : Nat} (hs : isSize w h = true) (hB : 4000 ≤ B) : smGrid B (gridNew w h) := by
  obtain ⟨h1, h2, h3, h4⟩ := isSize_bnd hs
  show (List.replicate (w * h).toNat blankC).length ≤ B
  rw [List.length_replicate]; omega
theorem sizeD_nat {s : ScrD} {h : Int} : ((sizeD s h).toNat : Int) = sizeD s h := by unfold sizeD; omega
theorem tots_le {l : List RowD} {k : Nat} (h : ∀ y, y ∈ l → y.Cells.length ≤ k) : tots totRow l ≤ l.length * (k + 1) := by
  unfold tots
  have : (l.map totRow).sum ≤ l.length * k := by
    induction l with
    | nil => simp
    | cons y r ih =>
      have h1 := ih (fun z hz => h z (List.mem_cons_of_mem _ hz))
      have h2 := h y List.mem_cons_self
      simp only [List.map_cons, List.sum_cons, List.length_cons, totRow, Nat.add_mul]
      omega
  rw [Nat.mul_add]
  omega
theorem rowOk_len {r : RowD} (h : rowOk r = true) : r.Cells.length ≤ 120 := by
  unfold rowOk at h
  rw [Bool.and_eq_true, within_iff] at h
  omega
theorem gPaste_len {g h : GridD} {x y : Int} : (gPaste g h x y).Cells.length = g.Cells.length := gmap_len _ _
theorem back_bnd {b : List RowD} {l : Int} (h : ∀ y, y ∈ b → y.Cells.length ≤ 120) (hl : (b.length : Int) ≤ l) (h2 : l ≤ 100) : tots totRow b ≤ 12100 := by
  have h1 := tots_le h
  have h3 : b.length * 121 ≤ 100 * 121 := Nat.mul_le_mul_right _ (by omega)
  omega
theorem scrOk_back {s : ScrD} (h : scrOk s = true) : ∀ y, y ∈ s.Back → y.Cells.length ≤ 120 := by
  have := (scrOk_P h).2.2.2.2.2
  rw [List.all_eq_true] at this
  exact fun y hy => rowOk_len (this y hy)
theorem scrSize1_bnd {s : ScrD} {h : Int} (hok : scrOk s = true) : tots totRow (scrSize1 s h).Back ≤ 12100 := by
  obtain ⟨_, _, _, _, hl, hb⟩ := scrOk_bnd hok
  unfold scrSize1
  split
  · exact back_bnd (scrOk_back hok) hb hl.2
  · refine back_bnd (l := s.Limit) (fun y hy => ?_) (by simp only [keepRows]; rw [lastN_len]; omega) hl.2
    have hy' := List.mem_of_mem_drop hy
    rcases List.mem_append.1 hy' with hy | hy
    · exact scrOk_back hok y hy
    · obtain ⟨i, _, rfl⟩ := List.mem_map.1 hy
      have h1 := gridOk_bnd (scrOk_main hok).1
      exact Nat.le_trans rowAt_len (by omega)
theorem scrSizeRes_tot {s : ScrD} {w h : Int} : totScr (scrSizeRes s w h) ≤ 20114 := by
  unfold scrSizeRes
  split
  · rename_i hk
    unfold scrSizeOk at hk
    rw [Bool.and_eq_true] at hk
    obtain ⟨hw, hh, h1, h2⟩ := isSize_bnd hk.2
    have h3 := tabsL_len hw.1
    have h4 : (gridNew w h).Cells.length = (w * h).toNat := List.length_replicate
    have h5 := scrSize1_bnd (h := h) hk.1
    show (gPaste _ _ _ _).Cells.length + (gPaste _ _ _ _).Cells.length + (tabsL w).length + tots totRow (scrSize1 s h).Back ≤ 20114
    rw [gPaste_len, gPaste_len]
    omega
  · show 0 ≤ 20114; omega
theorem smTerm_mono {B B' : Nat} {t : TermD} (h : smTerm B t) (hB : B ≤ B') : smTerm B' t := ⟨⟨Nat.le_trans h.1.1 hB, Nat.le_trans h.1.2 hB⟩, smScr_mono h.2 hB⟩
def termSizeOk (t : TermD) (w h : Int) : Bool := termOk t && isSize w h
def termSizeRes (t : TermD) (w h : Int) : TermD := if termSizeOk t w h = true then ⟨t.P, scrSizeOf t.S w h⟩ else ⟨vp0, scr0⟩
theorem termSizeRes_tot {t : TermD} {w h : Int} (hb : totTerm t ≤ 1048576) : totTerm (termSizeRes t w h) ≤ 1068690 := by
  unfold termSizeRes
  split
  · rename_i hk
    unfold termSizeOk termOk at hk
    simp only [Bool.and_eq_true] at hk
    have h1 := scrSizeRes_tot (s := t.S) (w := w) (h := h)
    unfold scrSizeRes scrSizeOk at h1
    rw [hk.1.2, hk.2] at h1
    simp only [Bool.and_self, if_true, totScr] at h1
    simp only [totTerm] at hb ⊢
    omega
  · show 0 ≤ 1068690; omega

end Go.Proofs.Ytlmcekfdlgkffaa
