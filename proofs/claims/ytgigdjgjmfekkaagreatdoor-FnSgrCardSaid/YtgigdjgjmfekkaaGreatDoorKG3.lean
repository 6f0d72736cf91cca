/-
  What the proof stands on, part 3.
-/
import Derived.Test.YtgigdjgjmfekkaaGreatDoorKG2
namespace Go.Proofs.YtgigdjgjmfekkaaGreatDoor
open Go Go.RowKit
set_option linter.unusedVariables false
set_option linter.unusedSimpArgs false
def isSize (w h : Int) : Bool := (within w 1 120 && within h 1 120) && decide (w * h ≤ 4000)
theorem isSize_iff {w h : Int} : isSize w h = true ↔ ((1 ≤ w ∧ w ≤ 120) ∧ 1 ≤ h ∧ h ≤ 120) ∧ w * h ≤ 4000 := by
 simp only [isSize, Bool.and_eq_true, within_iff, decide_eq_true_eq]
theorem mul_size {w h : Int} (hw : 1 ≤ w ∧ w ≤ 120) (hh : 1 ≤ h ∧ h ≤ 120) : 1 ≤ w * h ∧ w * h ≤ 14400 := by
 have h1 : 1 * 1 ≤ w * h := Int.mul_le_mul hw.1 hh.1 (by decide) (by omega)
 have h2 : w * h ≤ 120 * 120 := Int.mul_le_mul hw.2 hh.2 (by omega) (by decide)
 omega
theorem isSize_bnd {w h : Int} (hs : isSize w h = true) : (1 ≤ w ∧ w ≤ 120) ∧ (1 ≤ h ∧ h ≤ 120) ∧ 1 ≤ w * h ∧ w * h ≤ 4000 := by
 have h1 := isSize_iff.1 hs
 have h2 := mul_size h1.1.1 h1.1.2
 exact ⟨h1.1.1, h1.1.2, h2.1, h1.2⟩
abbrev blankC : CellD := ⟨32, ⟨0, 0, false, false, false⟩⟩
abbrev grid0 : GridD := ⟨0, 0, []⟩
def gridNew (w h : Int) : GridD := ⟨w, h, List.replicate (w * h).toNat blankC⟩
def tabsL (w : Int) : List Int := (List.range ((w - 1) / 8).toNat).map fun i : Nat => 8 * ((i : Int) + 1)
abbrev scr0 : ScrD := ⟨0, 0, grid0, grid0, false, 0, 0, false, ⟨0, 0, false, false, false⟩, 0, 0, false, false, 0, 0, ⟨0, 0, false, false, false⟩, [], 0, []⟩
def scrNew (w h l : Int) : ScrD := ⟨w, h, gridNew w h, gridNew w h, false, 0, 0, false, ⟨0, 0, false, false, false⟩, 0, h - 1, false, false, 0, 0, ⟨0, 0, false, false, false⟩, tabsL w, l, []⟩
def scrMay (w h l : Int) : Bool := isSize w h && within l 0 100
def scrRes (w h l : Int) : ScrD := if scrMay w h l = true then scrNew w h l else scr0
theorem tabsL_take {w : Int} {i : Nat} (h : 8 * ((i : Int) + 1) < w) : (List.range (i + 1)).map (fun i : Nat => 8 * ((i : Int) + 1)) = (List.range i).map (fun i : Nat => 8 * ((i : Int) + 1)) ++ [8 * ((i : Int) + 1)] := by
 rw [List.range_succ, List.map_append]; rfl
theorem tabsL_end {w : Int} {i : Nat} (h : ¬ 8 * ((i : Int) + 1) < w) (h2 : i = 0 ∨ 8 * (i : Int) < w) : (List.range i).map (fun i : Nat => 8 * ((i : Int) + 1)) = tabsL w := by
 unfold tabsL
 congr 2
 rcases h2 with rfl | h2 <;> omega
def gridOk (g : GridD) : Bool := (isSize g.W g.H && decide ((g.Cells.length : Int) = g.W * g.H)) && cellsOk g.Cells
def gridHas (g : GridD) (x y : Int) : Bool := within x 0 (g.W - 1) && within y 0 (g.H - 1)
def ascAt (l : List Int) (lo hi : Int) (i : Nat) : Bool := within (iat l i) lo hi && (decide (i = 0) || decide (iat l (i - 1) < iat l i))
def isAsc (l : List Int) (lo hi : Int) : Bool := (List.range l.length).all (ascAt l lo hi)
theorem isAsc_all {l : List Int} {lo hi : Int} (h : ∀ i, i < l.length → ascAt l lo hi i = true) : isAsc l lo hi = true := by
 unfold isAsc
 rw [List.all_eq_true]
 exact fun i hi => h i (List.mem_range.1 hi)
theorem isAsc_not {l : List Int} {lo hi : Int} {i : Nat} (hi' : i < l.length) (h : ascAt l lo hi i = false) : isAsc l lo hi = false := by
 rw [← Bool.not_eq_true]
 intro hh
 unfold isAsc at hh
 rw [List.all_eq_true] at hh
 rw [hh i (List.mem_range.2 hi')] at h
 cases h
def rowOk (r : RowD) : Bool := within r.Cells.length 1 120 && cellsOk r.Cells
def backOk (b : List RowD) (l : Int) : Bool := decide ((b.length : Int) ≤ l) && b.all rowOk
def gridFit (g : GridD) (w h : Int) : Bool := gridOk g && (decide (g.W = w) && decide (g.H = h))
def scrP1 (s : ScrD) : Bool := gridFit s.Main s.W s.H && gridFit s.Alt s.W s.H
def scrP2 (s : ScrD) : Bool := (gridHas s.Main s.X s.Y && gridHas s.Main s.SaveX s.SaveY) && ((!s.Wrap || decide (s.X = s.W - 1)) && (attrOk s.A.Fg s.A.Bg && attrOk s.SaveA.Fg s.SaveA.Bg))
def scrP3 (s : ScrD) : Bool := (decide (0 ≤ s.Top) && decide (s.Top ≤ s.Bot)) && (decide (s.Bot < s.H) && (!decide (s.Top = s.Bot) || decide (s.H = 1)))
def scrP4 (s : ScrD) : Bool := within s.Limit 0 100 && decide ((s.Back.length : Int) ≤ s.Limit)
def scrIn (s : ScrD) : Bool := (scrP1 s && scrP2 s) && (scrP3 s && scrP4 s)
def scrOk (s : ScrD) : Bool := (scrIn s && isAsc s.Tabs 0 (s.W - 1)) && s.Back.all rowOk
theorem gridOk_bnd {g : GridD} (h : gridOk g = true) : (1 ≤ g.W ∧ g.W ≤ 120) ∧ (1 ≤ g.H ∧ g.H ≤ 120) ∧ 1 ≤ g.W * g.H ∧ g.W * g.H ≤ 4000 := by
 unfold gridOk at h
 rw [Bool.and_eq_true, Bool.and_eq_true] at h
 exact isSize_bnd h.1.1
theorem gridFit_bnd {g : GridD} {w h : Int} (hf : gridFit g w h = true) : (1 ≤ w ∧ w ≤ 120) ∧ (1 ≤ h ∧ h ≤ 120) ∧ g.W = w ∧ g.H = h := by
 unfold gridFit at hf
 rw [Bool.and_eq_true, Bool.and_eq_true, decide_eq_true_eq, decide_eq_true_eq] at hf
 have := gridOk_bnd hf.1
 omega
theorem scrP1_bnd {s : ScrD} (h : scrP1 s = true) : (1 ≤ s.W ∧ s.W ≤ 120) ∧ (1 ≤ s.H ∧ s.H ≤ 120) ∧ s.Main.W = s.W ∧ s.Main.H = s.H ∧ s.Alt.W = s.W ∧ s.Alt.H = s.H := by
 unfold scrP1 at h
 rw [Bool.and_eq_true] at h
 have h1 := gridFit_bnd h.1
 have h2 := gridFit_bnd h.2
 omega
theorem scrOk_no {s : ScrD} (h : scrP1 s = false ∨ scrP2 s = false ∨ scrP3 s = false ∨ scrP4 s = false ∨ isAsc s.Tabs 0 (s.W - 1) = false ∨ s.Back.all rowOk = false) : scrOk s = false := by
 unfold scrOk scrIn
 rcases h with h | h | h | h | h | h <;> rw [h] <;> simp
theorem scrOk_yes {s : ScrD} (h1 : scrP1 s = true) (h2 : scrP2 s = true) (h3 : scrP3 s = true) : scrOk s = ((isAsc s.Tabs 0 (s.W - 1) && within s.Limit 0 100) && backOk s.Back s.Limit) := by
 unfold scrOk scrIn scrP4 backOk
 rw [h1, h2, h3]
 simp only [Bool.true_and]
 generalize within s.Limit 0 100 = a
 generalize isAsc s.Tabs 0 (s.W - 1) = b
 generalize decide ((s.Back.length : Int) ≤ s.Limit) = c
 generalize s.Back.all rowOk = d
 cases a <;> cases b <;> cases c <;> cases d <;> rfl
theorem scrOk_all {s : ScrD} (h1 : scrP1 s = true) (h2 : scrP2 s = true) (h3 : scrP3 s = true) (h4 : scrP4 s = true) (h5 : isAsc s.Tabs 0 (s.W - 1) = true) (h6 : s.Back.all rowOk = true) : scrOk s = true := by
 unfold scrOk scrIn
 rw [h1, h2, h3, h4, h5, h6]; rfl
def termOk (t : TermD) : Bool := vpOk t.P && scrOk t.S
def gridRes (w h : Int) : GridD := if isSize w h = true then gridNew w h else grid0
def termRes (w h l : Int) : TermD := ⟨vp0, scrRes w h l⟩
theorem all_gat {α β : Type} {F : Enc α} {f : α → β} {p : β → Bool} {l : List α} (h : ∀ j, j < l.length → p (f (gat F l j)) = true) : (l.map f).all p = true := by
 rw [List.all_map, List.all_eq_true]
 intro x hx
 obtain ⟨j, hj, rfl⟩ := List.mem_iff_getElem.1 hx
 have := h j hj
 rwa [show gat F l j = l[j] by simp [gat, List.getD, hj]] at this
theorem all_gat_not {α β : Type} {F : Enc α} {f : α → β} {p : β → Bool} {l : List α} {j : Nat} (hj : j < l.length) (h : p (f (gat F l j)) = false) : (l.map f).all p = false := by
 rw [← Bool.not_eq_true]
 intro hh
 rw [List.all_map, List.all_eq_true] at hh
 have h2 : p (f (gat F l j)) = true := hh _ (gat_mem hj)
 rw [h] at h2; cases h2
theorem gat_lt {α : Type} {F : Enc α} {xs : List α} {k : Nat} (h : k < xs.length) : gat F xs k = xs[k] := by
 simp [gat, List.getD, h]
theorem ext_gat {α : Type} {F : Enc α} {xs : List α} {n : Nat} {f : Nat → α} (hl : xs.length = n) (h : ∀ k, k < n → gat F xs k = f k) : xs = (List.range n).map f := by
 apply List.ext_getElem
 ·simpa using hl
 ·intro k h1 h2
  have h3 := h k (by omega)
  rw [gat_lt h1] at h3
  rw [h3]; simp
theorem gat_splice {α : Type} {F : Enc α} {xs ys : List α} {lo m k : Nat} (hy : m ≤ ys.length) (hx : lo + m ≤ xs.length) (hk : k < xs.length) : gat F (xs.take lo ++ ys.take m ++ xs.drop (lo + m)) k = if lo ≤ k ∧ k < lo + m then gat F ys (k - lo) else gat F xs k := by
 have h1 : (xs.take lo).length = lo := by rw [List.length_take]; omega
 have h2 : (ys.take m).length = m := by rw [List.length_take]; omega
 have h3 : (xs.take lo ++ ys.take m ++ xs.drop (lo + m)).length = xs.length := by simp only [List.length_append, h1, h2, List.length_drop]; omega
 rw [gat_lt (by omega)]
 split
 ·rename_i h
  rw [gat_lt (show k - lo < ys.length by omega), List.getElem_append_left (by simp only [List.length_append, h1, h2]; omega), List.getElem_append_right (by omega), List.getElem_take]
  congr 1; omega
 ·rename_i h
  rw [gat_lt hk]
  rcases Nat.lt_or_ge k lo with h4 | h4
  ·rw [List.getElem_append_left (by simp only [List.length_append, h1, h2]; omega), List.getElem_append_left (by omega), List.getElem_take]
  ·rw [List.getElem_append_right (by simp only [List.length_append, h1, h2]; omega), List.getElem_drop]
   congr 1
   simp only [List.length_append, h1, h2]; omega
def gmap (g : GridD) (f : Nat → CellD) : GridD := { g with Cells := (List.range g.Cells.length).map f }
abbrev cat (l : List CellD) (k : Nat) : CellD := gat encCell l k
def rollF (g : GridD) (top bot n : Int) (k : Nat) : CellD :=
 if top ≤ ((k / g.W.toNat : Nat) : Int) ∧ ((k / g.W.toNat : Nat) : Int) ≤ bot then
  (if top ≤ ((k / g.W.toNat : Nat) : Int) + n ∧ ((k / g.W.toNat : Nat) : Int) + n ≤ bot then cat g.Cells ((((k / g.W.toNat : Nat) : Int) + n).toNat * g.W.toNat + k % g.W.toNat) else blankC)
 else cat g.Cells k
def gRoll (g : GridD) (top bot n : Int) : GridD := gmap g (rollF g top bot n)
def shiftF (g : GridD) (x y n : Int) (k : Nat) : CellD :=
 if ((k / g.W.toNat : Nat) : Int) = y ∧ x ≤ ((k % g.W.toNat : Nat) : Int) then
  (if x ≤ ((k % g.W.toNat : Nat) : Int) - n ∧ ((k % g.W.toNat : Nat) : Int) - n < g.W then cat g.Cells ((k / g.W.toNat) * g.W.toNat + (((k % g.W.toNat : Nat) : Int) - n).toNat) else blankC)
 else cat g.Cells k
def gShift (g : GridD) (x y n : Int) : GridD := gmap g (shiftF g x y n)
def fillFn (g : GridD) (x y w h : Int) (c : CellD) (k : Nat) : CellD :=
 if (x ≤ ((k % g.W.toNat : Nat) : Int) ∧ ((k % g.W.toNat : Nat) : Int) < x + w) ∧ y ≤ ((k / g.W.toNat : Nat) : Int) ∧ ((k / g.W.toNat : Nat) : Int) < y + h then c else cat g.Cells k
def gFill (g : GridD) (x y w h : Int) (c : CellD) : GridD := gmap g (fillFn g x y w h c)
theorem gmap_len (g : GridD) (f : Nat → CellD) : (gmap g f).Cells.length = g.Cells.length := by simp [gmap]
theorem rep_first {x : List CellD} {n k : Nat} (h : 1 ≤ n) (hk : k = 1) (hx : x.length = 1) : (List.replicate n encCell.dflt).take 0 ++ x.take (min k n) ++ (List.replicate n encCell.dflt).drop (0 + min k n) = List.replicate 1 (gat encCell x 0) ++ List.replicate (n - 1) encCell.dflt := by
 subst hk
 obtain ⟨c, rfl⟩ := List.length_eq_one_iff.1 hx
 rw [show min 1 n = 1 by omega]
 simp [gat]
theorem rep_next {x d : CellD} {n m : Nat} (h1 : 1 ≤ m) (h2 : m ≤ n) : (List.replicate m x ++ List.replicate (n - m) d).take m ++ ((List.replicate m x ++ List.replicate (n - m) d).take m).take (min (m - 0) (n - m)) ++ (List.replicate m x ++ List.replicate (n - m) d).drop (m + min (m - 0) (n - m)) = List.replicate (m + min m (n - m)) x ++ List.replicate (n - (m + min m (n - m))) d := by
 have e1 : (List.replicate m x ++ List.replicate (n - m) d).take m = List.replicate m x := by
  rw [List.take_append_of_le_length (by simp), List.take_of_length_le (by simp)]
 rw [e1, List.take_replicate, Nat.sub_zero, List.drop_append, List.length_replicate, List.drop_of_length_le (by simp), List.nil_append, List.drop_replicate]
 rw [show min (min m (n - m)) m = min m (n - m) by omega, List.replicate_append_replicate]
 congr 2
 omega
theorem dm_uniq {a b r c w : Nat} (hb : b < w) (hc : c < w) (h : a * w + b = r * w + c) : a = r ∧ b = c := by
 have key : ∀ p q : Nat, q < w → (p * w + q) / w = p := fun p q hq => by
  rw [Nat.mul_comm, Nat.mul_add_div (by omega), Nat.div_eq_of_lt hq, Nat.add_zero]
 have h1 := key a b hb
 rw [h, key r c hc] at h1
 subst h1
 exact ⟨rfl, by omega⟩
theorem dm_at {k w a b : Nat} (hb : b < w) : (k / w = a ∧ k % w = b) ↔ k = a * w + b := by
 have h := Nat.div_add_mod k w
 rw [Nat.mul_comm] at h
 constructor
 ·rintro ⟨h1, h2⟩
  rw [← h1, ← h2]; exact h.symm
 ·intro h1
  exact dm_uniq (Nat.mod_lt _ (by omega)) hb (h.trans h1)
def pasteIn (g h : GridD) (x y : Int) (k : Nat) : Prop :=
 (0 ≤ ((k % g.W.toNat : Nat) : Int) - x ∧ ((k % g.W.toNat : Nat) : Int) - x < h.W) ∧ 0 ≤ ((k / g.W.toNat : Nat) : Int) - y ∧ ((k / g.W.toNat : Nat) : Int) - y < h.H
instance (g h : GridD) (x y : Int) (k : Nat) : Decidable (pasteIn g h x y k) := by unfold pasteIn; infer_instance
theorem divmod_ex {i : Nat} {w h : Int} (hw : 1 ≤ w) (hh : 1 ≤ h) (hi : (i : Int) < w * h) : ∃ q m : Nat, (i : Int) / w = q ∧ (i : Int) % w = m ∧ i = q * w.toNat + m ∧ (m : Int) < w ∧ (q : Int) < h := by
 have hm := Nat.mod_lt i (show 0 < w.toNat by omega)
 have e := Nat.div_add_mod i w.toNat
 rw [Nat.mul_comm] at e
 have ew : w = (w.toNat : Int) := by omega
 have eh : h = (h.toNat : Int) := by omega
 have hd : i / w.toNat < h.toNat := Nat.div_lt_of_lt_mul (by rw [ew, eh] at hi; exact_mod_cast hi)
 refine ⟨i / w.toNat, i % w.toNat, ?_, ?_, e.symm, by omega, by omega⟩
 ·rw [Int.natCast_ediv, ← ew]
 ·rw [Int.natCast_emod, ← ew]
theorem gat_set2 {α : Type} {F : Enc α} {xs : List α} {i k : Nat} {v : α} (hi : i < xs.length) : gat F (xs.set i v) k = if k = i then v else gat F xs k := by
 unfold gat
 rw [List.getD_eq_getElem?_getD, List.getD_eq_getElem?_getD, List.getElem?_set]
 by_cases h : i = k
 ·subst h; simp [hi]
 ·rw [if_neg h, if_neg (Ne.symm h)]
theorem gat_cut {α : Type} {F : Enc α} {xs : List α} {m n k : Nat} (h : k < n) : gat F ((xs.drop m).take n) k = gat F xs (m + k) := by
 unfold gat
 rw [List.getD_eq_getElem?_getD, List.getD_eq_getElem?_getD, List.getElem?_take_of_lt h, List.getElem?_drop]
theorem toNat_mul_nat {a : Nat} {b : Int} (hb : 0 ≤ b) : ((a : Int) * b).toNat = a * b.toNat := by
 rw [Int.toNat_mul (by omega) hb]; rfl
def rowAt (g : GridD) (y : Nat) : RowD := ⟨(g.Cells.drop (y * g.W.toNat)).take g.W.toNat⟩
def lastN {α : Type} (n : Nat) (l : List α) : List α := l.drop (l.length - n)
theorem lastN_len {α : Type} {n : Nat} {l : List α} : (lastN n l).length = min l.length n := by simp [lastN]; omega
theorem lastN_all {α : Type} {n : Nat} {l : List α} (h : l.length ≤ n) : lastN n l = l := by
 unfold lastN; rw [show l.length - n = 0 by omega]; rfl
theorem lastN_snoc {α : Type} {n : Nat} {l : List α} {x : α} : lastN n (lastN n l ++ [x]) = lastN n (l ++ [x]) := by
 unfold lastN
 simp only [List.length_append, List.length_drop, List.length_singleton]
 rcases Nat.lt_or_ge n l.length with h | h
 ·rw [List.drop_append, List.drop_append, List.drop_drop, List.length_drop]
  congr 2 <;> omega
 ·rw [show l.length - n = 0 by omega]
  simp
def keepRows (s : ScrD) (n : Nat) : ScrD := { s with Back := lastN s.Limit.toNat (s.Back ++ (List.range n).map (rowAt s.Main)) }
theorem range_snoc {α : Type} {f : Nat → α} {n : Nat} : (List.range (n + 1)).map f = (List.range n).map f ++ [f n] := by
 rw [List.range_succ, List.map_append]; rfl
theorem keepRows_succ {s : ScrD} {n : Nat} : keepRows s (n + 1) = { keepRows s n with Back := lastN s.Limit.toNat ((keepRows s n).Back ++ [rowAt s.Main n]) } := by
 unfold keepRows
 rw [range_snoc, ← List.append_assoc, ← lastN_snoc]
theorem keepRows_zero {s : ScrD} (h : (s.Back.length : Int) ≤ s.Limit) : keepRows s 0 = s := by
 unfold keepRows
 rw [show (List.range 0).map (rowAt s.Main) = [] from rfl, List.append_nil, lastN_all (by omega)]
theorem smScr_mono {B B' : Nat} {s : ScrD} (h : smScr B s) (hB : B ≤ B') : smScr B' s := ⟨Nat.le_trans h.1 hB, Nat.le_trans h.2.1 hB, Nat.le_trans h.2.2.1 hB, Nat.le_trans h.2.2.2.1 hB, fun y hy => Nat.le_trans (h.2.2.2.2 y hy) hB⟩
theorem rowAt_len {g : GridD} {i : Nat} : (rowAt g i).Cells.length ≤ g.W.toNat := by
 unfold rowAt
 rw [List.length_take]
 exact Nat.min_le_left _ _
def keepTo (s : ScrD) (n : Nat) : ScrD := { s with Back := s.Back ++ (List.range n).map (rowAt s.Main) }
theorem keepTo_zero {s : ScrD} : keepTo s 0 = s := by
 unfold keepTo
 rw [show (List.range 0).map (rowAt s.Main) = [] from rfl, List.append_nil]
theorem keepTo_succ {s : ScrD} {n : Nat} {r : RowD} (h : r = rowAt s.Main n) : keepTo s (n + 1) = { keepTo s n with Back := (keepTo s n).Back ++ [r] } := by
 subst h
 unfold keepTo
 rw [range_snoc, ← List.append_assoc]
theorem keepTo_sm {s : ScrD} {n B : Nat} (h : smScr B s) (hg : gridOk s.Main = true) (hl : s.Back.length + n ≤ B) (hB : 120 ≤ B) : smScr B (keepTo s n) := by
 refine ⟨h.1, h.2.1, h.2.2.1, by simp only [keepTo, List.length_append, List.length_map, List.length_range]; exact hl, fun y hy => ?_⟩
 rcases List.mem_append.1 hy with hy | hy
 ·exact h.2.2.2.2 y hy
 ·obtain ⟨i, _, rfl⟩ := List.mem_map.1 hy
  have h1 := gridOk_bnd hg
  exact Nat.le_trans rowAt_len (by omega)
theorem keepTo_drop {s d : ScrD} {n k : Nat} (h : d = keepTo s n) (hk : k = d.Back.length - s.Limit.toNat) : { d with Back := d.Back.drop k } = keepRows s n := by subst h; subst hk; rfl
theorem keepTo_all {s d : ScrD} {n : Nat} (h : d = keepTo s n) (hk : d.Back.length ≤ s.Limit.toNat) : d = keepRows s n := by
 subst h
 unfold keepRows
 rw [lastN_all (l := s.Back ++ List.map (rowAt s.Main) (List.range n)) hk]; rfl
theorem keepRows_sm {s : ScrD} {n B : Nat} (h : smScr B s) (hg : gridOk s.Main = true) (hB : 120 ≤ B) (hl : s.Limit.toNat ≤ B) : smScr B (keepRows s n) := by
 refine ⟨h.1, h.2.1, h.2.2.1, by simp only [keepRows]; rw [lastN_len]; omega, fun y hy => ?_⟩
 have hy' := List.mem_of_mem_drop hy
 rcases List.mem_append.1 hy' with hy | hy
 ·exact h.2.2.2.2 y hy
 ·obtain ⟨i, _, rfl⟩ := List.mem_map.1 hy
  have h1 := gridOk_bnd hg
  exact Nat.le_trans rowAt_len (by omega)
theorem ownScrR.lens {r : ScrR} {L : Hp} (h : ownScrR r L) : (r.Main.Cells.xs.length = r.Main.Cells.n ∧ r.Main.Cells.n ≤ r.Main.Cells.c) ∧ (r.Alt.Cells.xs.length = r.Alt.Cells.n ∧ r.Alt.Cells.n ≤ r.Alt.Cells.c) ∧ (r.Tabs.xs.length = r.Tabs.n ∧ r.Tabs.n ≤ r.Tabs.c) ∧ (r.Back.xs.length = r.Back.n ∧ r.Back.n ≤ r.Back.c) := by
 obtain ⟨L1, L2, L3, L4, rfl, o1, o2, o3, o4⟩ := h
 exact ⟨⟨OwnF.len_ o1, OwnF.cap o1⟩, ⟨OwnF.len_ o2, OwnF.cap o2⟩, ⟨OwnF.len_ o3, OwnF.cap o3⟩, ⟨OwnN.len_ o4, OwnN.cap o4⟩⟩
def keepOne (s : ScrD) (y : Nat) : ScrD := { s with Back := lastN s.Limit.toNat (s.Back ++ [rowAt s.Main y]) }
theorem keepOne_succ {s : ScrD} {n : Nat} : keepOne (keepRows s n) n = keepRows s (n + 1) := keepRows_succ.symm
theorem keepOne_drop {s : ScrD} {y k : Nat} (hk : k = s.Back.length + 1 - s.Limit.toNat) : { s with Back := (s.Back ++ [rowAt s.Main y]).drop k } = keepOne s y := by
 unfold keepOne lastN
 rw [hk, List.length_append]; rfl
theorem keepOne_all {s : ScrD} {y : Nat} (hk : s.Back.length + 1 ≤ s.Limit.toNat) : { s with Back := s.Back ++ [rowAt s.Main y] } = keepOne s y := by
 unfold keepOne
 rw [lastN_all (by rw [List.length_append]; exact hk)]
theorem gridFit_ok {g : GridD} {w h : Int} (hf : gridFit g w h = true) : gridOk g = true := by
 unfold gridFit at hf
 rw [Bool.and_eq_true] at hf
 exact hf.1
theorem scrOk_P {s : ScrD} (h : scrOk s = true) : scrP1 s = true ∧ scrP2 s = true ∧ scrP3 s = true ∧ scrP4 s = true ∧ isAsc s.Tabs 0 (s.W - 1) = true ∧ s.Back.all rowOk = true := by
 unfold scrOk scrIn at h
 simp only [Bool.and_eq_true] at h
 exact ⟨h.1.1.1.1, h.1.1.1.2, h.1.1.2.1, h.1.1.2.2, h.1.2, h.2⟩
theorem scrOk_main {s : ScrD} (h : scrOk s = true) : gridOk s.Main = true ∧ gridOk s.Alt = true := by
 have h1 := (scrOk_P h).1
 unfold scrP1 at h1
 rw [Bool.and_eq_true] at h1
 exact ⟨gridFit_ok h1.1, gridFit_ok h1.2⟩
theorem scrOk_bnd {s : ScrD} (h : scrOk s = true) : ((1 ≤ s.W ∧ s.W ≤ 120) ∧ (1 ≤ s.H ∧ s.H ≤ 120) ∧ s.Main.W = s.W ∧ s.Main.H = s.H ∧ s.Alt.W = s.W ∧ s.Alt.H = s.H) ∧ ((0 ≤ s.X ∧ s.X < s.W) ∧ 0 ≤ s.Y ∧ s.Y < s.H) ∧ ((0 ≤ s.SaveX ∧ s.SaveX < s.W) ∧ 0 ≤ s.SaveY ∧ s.SaveY < s.H) ∧ (0 ≤ s.Top ∧ s.Top ≤ s.Bot ∧ s.Bot < s.H) ∧ (0 ≤ s.Limit ∧ s.Limit ≤ 100) ∧ (s.Back.length : Int) ≤ s.Limit := by
 obtain ⟨h1, h2, h3, h4, _, _⟩ := scrOk_P h
 have b := scrP1_bnd h1
 unfold scrP2 gridHas at h2
 unfold scrP3 at h3
 unfold scrP4 at h4
 simp only [Bool.and_eq_true, within_iff, decide_eq_true_eq] at h2 h3 h4
 omega
theorem gridOk_new {w h : Int} (hs : isSize w h = true) : gridOk (gridNew w h) = true := by
 obtain ⟨h1, h2, h3, h4⟩ := isSize_bnd hs
 unfold gridOk
 rw [Bool.and_eq_true, Bool.and_eq_true]
 refine ⟨⟨hs, ?_⟩, ?_⟩
 ·rw [decide_eq_true_eq]
  show ((List.replicate (w * h).toNat blankC).length : Int) = w * h
  rw [List.length_replicate]; omega
 ·show cellsOk (List.replicate (w * h).toNat blankC) = true
  unfold cellsOk
  rw [List.all_eq_true]
  intro x hx
  rw [List.mem_replicate] at hx
  rw [hx.2]; decide
theorem tots_le {l : List RowD} {k : Nat} (h : ∀ y, y ∈ l → y.Cells.length ≤ k) : tots totRow l ≤ l.length * (k + 1) := by
 unfold tots
 have : (l.map totRow).sum ≤ l.length * k := by
  induction l with
  | nil => simp
  | cons y r ih =>
   have h1 := ih (fun z hz => h z (List.mem_cons_of_mem _ hz))
   have h2 := h y List.mem_cons_self
   simp only [List.map_cons, List.sum_cons, List.length_cons, totRow, Nat.add_mul]
   omega
 rw [Nat.mul_add]
 omega
theorem rowOk_len {r : RowD} (h : rowOk r = true) : r.Cells.length ≤ 120 := by
 unfold rowOk at h
 rw [Bool.and_eq_true, within_iff] at h
 omega
theorem back_bnd {b : List RowD} {l : Int} (h : ∀ y, y ∈ b → y.Cells.length ≤ 120) (hl : (b.length : Int) ≤ l) (h2 : l ≤ 100) : tots totRow b ≤ 12100 := by
 have h1 := tots_le h
 have h3 : b.length * 121 ≤ 100 * 121 := Nat.mul_le_mul_right _ (by omega)
 omega
theorem scrOk_back {s : ScrD} (h : scrOk s = true) : ∀ y, y ∈ s.Back → y.Cells.length ≤ 120 := by
 have := (scrOk_P h).2.2.2.2.2
 rw [List.all_eq_true] at this
 exact fun y hy => rowOk_len (this y hy)
theorem smTerm_mono {B B' : Nat} {t : TermD} (h : smTerm B t) (hB : B ≤ B') : smTerm B' t := ⟨⟨Nat.le_trans h.1.1 hB, Nat.le_trans h.1.2 hB⟩, smScr_mono h.2 hB⟩
def partI (l : List UInt8) : List Int := l.map fun b => (b.toNat : Int)
def bitI (b : Bool) (k : Int) : Int := if b = true then k else 0
theorem bitI_bnd {b : Bool} {k : Int} (h : 0 ≤ k) : 0 ≤ bitI b k ∧ bitI b k ≤ k := by unfold bitI; split <;> omega
def flagsI (a b c d e : Bool) : Int := bitI a 1 + bitI b 2 + bitI c 4 + bitI d 8 + bitI e 16
theorem attrNum_bnd {a : AttrD} (h : attrOk a.Fg a.Bg = true) : 0 ≤ attrNum a ∧ attrNum a ≤ 647 := by
 have := cellOk_bounds (c := ⟨32, a⟩) (by unfold cellOk; rw [h]; rfl)
 exact this.2.2.2
def headL (t : TermD) : List Int := [t.S.W, t.S.H, flagsI t.S.OnAlt t.S.Wrap t.S.NoWrap t.S.Hide t.P.Mark, t.S.X, t.S.Y, attrNum t.S.A, t.S.Top, t.S.Bot, t.S.SaveX, t.S.SaveY, attrNum t.S.SaveA, t.S.Limit, t.P.State]
def rowsL (b : List RowD) : List UInt8 := b.flatMap fun r => varL r.Cells.length ++ cellsB r.Cells
def termL (t : TermD) : List UInt8 := numsL (headL t) ++ varL t.P.Args.length ++ numsL t.P.Args ++ varL t.P.Part.length ++ numsL (partI t.P.Part) ++ varL t.S.Tabs.length ++ numsL t.S.Tabs ++ cellsB t.S.Main.Cells ++ cellsB t.S.Alt.Cells ++ varL t.S.Back.length ++ rowsL t.S.Back
def termFine (t : TermD) : Bool := termOk t && decide ((termL t).length ≤ 40000)
def termOut (t : TermD) : List UInt8 := if termFine t = true then termL t else []
theorem termOk_P {t : TermD} (h : termOk t = true) : vpOk t.P = true ∧ scrOk t.S = true := by
 unfold termOk at h
 rwa [Bool.and_eq_true] at h
theorem vpOk_bnd {v : VpD} (h : vpOk v = true) : (0 ≤ v.State ∧ v.State ≤ 3) ∧ v.Args.length ≤ 8 ∧ ∀ x, x ∈ v.Args → 0 ≤ x ∧ x ≤ 9999 := by
 unfold vpOk at h
 split at h
 ·simp only [Bool.and_eq_true, decide_eq_true_eq] at h
  have h0 : v.Args = [] := List.eq_nil_of_length_eq_zero h.1.2
  rw [h0]
  exact ⟨by omega, by simp, by simp⟩
 ·split at h
  ·simp only [Bool.and_eq_true, decide_eq_true_eq] at h
   have h0 : v.Args = [] := List.eq_nil_of_length_eq_zero h.1.2
   rw [h0]
   exact ⟨by omega, by simp, by simp⟩
  ·split at h
   ·rename_i h3
    unfold areArgs at h
    simp only [Bool.and_eq_true, decide_eq_true_eq, List.all_eq_true, within_iff] at h
    exact ⟨by omega, h.1.1, fun x hx => h.1.2 x hx⟩
   ·cases h
theorem scrOk_attr {s : ScrD} (h : scrOk s = true) : attrOk s.A.Fg s.A.Bg = true ∧ attrOk s.SaveA.Fg s.SaveA.Bg = true := by
 have h2 := (scrOk_P h).2.1
 unfold scrP2 at h2
 simp only [Bool.and_eq_true] at h2
 exact h2.2.2
theorem scrOk_tabs {s : ScrD} (h : scrOk s = true) : ∀ x, x ∈ s.Tabs → 0 ≤ x ∧ x ≤ 119 := by
 have h2 := (scrOk_P h).2.2.2.2.1
 have h3 := (scrOk_bnd h).1
 unfold isAsc at h2
 rw [List.all_eq_true] at h2
 intro x hx
 obtain ⟨i, hi, rfl⟩ := List.mem_iff_getElem.1 hx
 have h4 := h2 i (List.mem_range.2 hi)
 unfold ascAt at h4
 rw [Bool.and_eq_true, within_iff] at h4
 have e : iat s.Tabs i = s.Tabs[i] := by have := gat_get (F := encI) hi; rw [List.getElem?_eq_getElem hi] at this; exact (Option.some.inj this).symm
 rw [e] at h4
 omega
theorem headL_bnd {t : TermD} (h : termOk t = true) : ∀ x, x ∈ headL t → 0 ≤ x ∧ x ≤ 100000 := by
 obtain ⟨h1, h2⟩ := termOk_P h
 have hv := (vpOk_bnd h1).1
 obtain ⟨b1, b2, b3, b4, b5, b6⟩ := scrOk_bnd h2
 obtain ⟨a1, a2⟩ := scrOk_attr h2
 have n1 := attrNum_bnd a1
 have n2 := attrNum_bnd a2
 have f1 : 0 ≤ bitI t.S.OnAlt 1 ∧ bitI t.S.OnAlt 1 ≤ 1 := bitI_bnd (by decide)
 have f2 : 0 ≤ bitI t.S.Wrap 2 ∧ bitI t.S.Wrap 2 ≤ 2 := bitI_bnd (by decide)
 have f3 : 0 ≤ bitI t.S.NoWrap 4 ∧ bitI t.S.NoWrap 4 ≤ 4 := bitI_bnd (by decide)
 have f4 : 0 ≤ bitI t.S.Hide 8 ∧ bitI t.S.Hide 8 ≤ 8 := bitI_bnd (by decide)
 have f5 : 0 ≤ bitI t.P.Mark 16 ∧ bitI t.P.Mark 16 ≤ 16 := bitI_bnd (by decide)
 intro x hx
 simp only [headL, flagsI, List.mem_cons, List.not_mem_nil, or_false] at hx
 rcases hx with rfl | rfl | rfl | rfl | rfl | rfl | rfl | rfl | rfl | rfl | rfl | rfl | rfl <;> omega
theorem partI_bnd {l : List UInt8} : ∀ x, x ∈ partI l → 0 ≤ x ∧ x ≤ 255 := by
 intro x hx
 obtain ⟨b, _, rfl⟩ := List.mem_map.1 hx
 have := b.toNat_lt
 omega
theorem partI_len {l : List UInt8} : (partI l).length = l.length := by simp [partI]
theorem gridOk_cells {g : GridD} (h : gridOk g = true) : g.Cells.length ≤ 4000 ∧ cellsOk g.Cells = true := by
 have b := gridOk_bnd h
 unfold gridOk at h
 rw [Bool.and_eq_true, Bool.and_eq_true, decide_eq_true_eq] at h
 exact ⟨by omega, h.2⟩
theorem rowOk_cells {r : RowD} (h : rowOk r = true) : r.Cells.length ≤ 120 ∧ cellsOk r.Cells = true := by
 have := rowOk_len h
 unfold rowOk at h
 rw [Bool.and_eq_true] at h
 exact ⟨this, h.2⟩
theorem rowsL_len {b : List RowD} (h : ∀ r, r ∈ b → rowOk r = true) : (rowsL b).length ≤ 1805 * b.length := by
 induction b with
 | nil => simp [rowsL]
 | cons r l ih =>
  have h1 := ih fun q hq => h q (List.mem_cons_of_mem _ hq)
  obtain ⟨h2, h3⟩ := rowOk_cells (h r List.mem_cons_self)
  have h4 := cellsB_len (by omega) h3
  have h5 := varL_len r.Cells.length (by omega)
  have e : rowsL (r :: l) = (varL r.Cells.length ++ cellsB r.Cells) ++ rowsL l := by simp [rowsL]
  rw [e, List.length_append, List.length_append, List.length_cons]
  omega
theorem scrOk_rows {s : ScrD} (h : scrOk s = true) : ∀ r, r ∈ s.Back → rowOk r = true := by
 have := (scrOk_P h).2.2.2.2.2
 rwa [List.all_eq_true] at this
def partF (g : GridD) (F : Nat → CellD) (lo i k : Nat) : CellD := if lo ≤ k ∧ k < lo + i then F k else cat g.Cells k
theorem partF_zero {g : GridD} {F : Nat → CellD} {lo k : Nat} : partF g F lo 0 k = cat g.Cells k := by
 unfold partF; rw [if_neg (by omega)]
theorem partF_add {g : GridD} {F : Nat → CellD} {lo i m k : Nat} : partF g F lo (i + m) k = if lo + i ≤ k ∧ k < lo + i + m then F k else partF g F lo i k := by
 unfold partF
 by_cases h1 : lo + i ≤ k ∧ k < lo + i + m
 ·rw [if_pos h1, if_pos (by omega)]
 ·rw [if_neg h1]
  by_cases h2 : lo ≤ k ∧ k < lo + i
  ·rw [if_pos h2, if_pos (by omega)]
  ·rw [if_neg h2, if_neg (by omega)]
theorem partF_one {g : GridD} {F : Nat → CellD} {lo i k : Nat} : partF g F lo (i + 1) k = if k = lo + i then F k else partF g F lo i k := by
 rw [partF_add]
 by_cases h : k = lo + i
 ·rw [if_pos h, if_pos (by omega)]
 ·rw [if_neg h, if_neg (by omega)]
theorem at_div {w y x : Nat} (hx : x < w) : (y * w + x) / w = y ∧ (y * w + x) % w = x := (dm_at hx).2 rfl
theorem rollF_row {g : GridD} {top bot n : Int} {y x : Nat} (hw : (x : Int) < g.W) (h1 : top ≤ (y : Int)) (h2 : (y : Int) ≤ bot) : rollF g top bot n (y * g.W.toNat + x) = if top ≤ (y : Int) + n ∧ (y : Int) + n ≤ bot then cat g.Cells (((y : Int) + n).toNat * g.W.toNat + x) else blankC := by
 obtain ⟨e1, e2⟩ := at_div (w := g.W.toNat) (y := y) (x := x) (by omega)
 unfold rollF
 rw [e1, e2, if_pos ⟨h1, h2⟩]
theorem rollF_out {g : GridD} {top bot n : Int} {k : Nat} (h : ¬ (top ≤ ((k / g.W.toNat : Nat) : Int) ∧ ((k / g.W.toNat : Nat) : Int) ≤ bot)) : rollF g top bot n k = cat g.Cells k := by
 unfold rollF; rw [if_neg h]
theorem partF_roll {g : GridD} {top bot n : Int} {k i : Nat} (hw : 0 < g.W.toNat) (ht : 0 ≤ top) (hi : i = (bot - top + 1).toNat * g.W.toNat) (htb : top ≤ bot) : partF g (rollF g top bot n) (top.toNat * g.W.toNat) i k = rollF g top bot n k := by
 unfold partF
 by_cases h : top ≤ ((k / g.W.toNat : Nat) : Int) ∧ ((k / g.W.toNat : Nat) : Int) ≤ bot
 ·rw [if_pos]
  subst hi
  rw [← Nat.add_mul]
  have h3 := Nat.div_add_mod k g.W.toNat
  have h4 := Nat.mod_lt k hw
  rw [Nat.mul_comm] at h3
  have h5 : top.toNat ≤ k / g.W.toNat := by omega
  have h6 : k / g.W.toNat + 1 ≤ top.toNat + (bot - top + 1).toNat := by omega
  have h7 := Nat.mul_le_mul_right g.W.toNat h5
  have h8 := Nat.mul_le_mul_right g.W.toNat h6
  rw [Nat.add_mul, Nat.one_mul] at h8
  omega
 ·rw [rollF_out h]; split <;> rfl
theorem rollF_big {g : GridD} {top bot n m : Int} (h0 : 0 ≤ top) (hb : bot < g.H) (hn : g.H ≤ n ∧ g.H ≤ m ∨ n ≤ -g.H ∧ m ≤ -g.H) : gRoll g top bot n = gRoll g top bot m := by
 unfold gRoll
 congr 1
 funext k
 unfold rollF
 split
 ·rename_i h
  rw [if_neg (by omega), if_neg (by omega)]
 ·rfl
theorem roll_next {g : GridD} {top bot m i : Int} {a c k : Nat} {xs : List CellD} {v : CellD} (h0 : 0 ≤ top) (hi : i = (top + a) * g.W + c) (hw : 0 ≤ g.W) (hl : i.toNat < xs.length) (hc : (c : Int) < g.W) (hb : top + a ≤ bot) (hv : v = if top ≤ top + a + m ∧ top + a + m ≤ bot then cat g.Cells ((top + a + m) * g.W + c).toNat else blankC)
  (hq : cat xs k = partF g (rollF g top bot m) (top.toNat * g.W.toNat) (a * g.W.toNat + c) k) : cat (xs.set i.toNat v) k = partF g (rollF g top bot m) (top.toNat * g.W.toNat) (a * g.W.toNat + c + 1) k := by
 have e1 : i.toNat = (top.toNat + a) * g.W.toNat + c := by
  rw [hi, Int.toNat_add (Int.mul_nonneg (by omega) hw) (by omega), Int.toNat_mul (by omega) hw, Int.toNat_natCast]
  congr 2; omega
 rw [partF_one]
 show gat encCell (xs.set i.toNat v) k = _
 rw [gat_set2 hl, e1, Nat.add_mul, Nat.add_assoc]
 split
 ·rename_i hk
  subst hk
  rw [hv, show top.toNat * g.W.toNat + (a * g.W.toNat + c) = (top.toNat + a) * g.W.toNat + c by rw [Nat.add_mul, Nat.add_assoc], rollF_row hc (by omega) (by omega)]
  rw [show ((top.toNat + a : Nat) : Int) = top + a by omega]
  split
  ·rename_i hs
   congr 1
   rw [Int.toNat_add (Int.mul_nonneg (by omega) hw) (by omega), Int.toNat_mul (by omega) hw, Int.toNat_natCast]
  ·rfl
 ·exact hq
theorem roll_done {g : GridD} {top bot n m w h : Int} {a : Nat} {xs : List CellD} (hg : gridOk g = true) (h0 : 0 ≤ top) (htb : top ≤ bot) (hb : bot < g.H) (ha : (a : Int) = bot - top + 1) (hw : w = g.W) (hh : h = g.H) (hl : xs.length = g.Cells.length) (hm : n = m ∨ (g.H ≤ n ∧ g.H ≤ m ∨ n ≤ -g.H ∧ m ≤ -g.H))
  (hp : ∀ k, k < g.Cells.length → cat xs k = partF g (rollF g top bot m) (top.toNat * g.W.toNat) (a * g.W.toNat) k) : (⟨w, h, xs⟩ : GridD) = gRoll g top bot n := by
 have b := gridOk_bnd hg
 have e : gRoll g top bot n = gRoll g top bot m := by
  rcases hm with hm | hm
  ·rw [hm]
  ·exact rollF_big h0 hb hm
 rw [e, hw, hh]
 unfold gRoll gmap
 congr 1
 refine ext_gat (F := encCell) hl (fun k hk => ?_)
 rw [← partF_roll (g := g) (top := top) (bot := bot) (n := m) (i := a * g.W.toNat) (by omega) h0 (by congr 1; omega) htb]
 exact hp k hk
theorem gat_splice2 {xs ys : List CellD} {lo m k : Nat} (hy : m ≤ ys.length) (hx : lo + m ≤ xs.length) (hk : k < xs.length) : cat (xs.take lo ++ ys.take m ++ xs.drop (lo + m)) k = if lo ≤ k ∧ k < lo + m then cat ys (k - lo) else cat xs k := gat_splice hy hx hk
theorem asc_at {l : List Int} {lo hi : Int} (h : isAsc l lo hi = true) {i : Nat} (hi' : i < l.length) : (lo ≤ iat l i ∧ iat l i ≤ hi) ∧ (0 < i → iat l (i - 1) < iat l i) := by
 unfold isAsc at h
 rw [List.all_eq_true] at h
 have h4 := h i (List.mem_range.2 hi')
 unfold ascAt at h4
 rw [Bool.and_eq_true, within_iff, Bool.or_eq_true, decide_eq_true_eq, decide_eq_true_eq] at h4
 exact ⟨h4.1, fun h0 => by rcases h4.2 with h5 | h5; omega; exact h5⟩
theorem asc_lt {l : List Int} {lo hi : Int} (h : isAsc l lo hi = true) {i : Nat} : ∀ {j : Nat}, i < j → j < l.length → iat l i < iat l j := by
 intro j
 induction j with
 | zero => intro h1; omega
 | succ j ih =>
  intro h1 h2
  have h3 := (asc_at h h2).2 (by omega)
  rw [Nat.add_sub_cancel] at h3
  rcases Nat.lt_or_ge i j with h4 | h4
  ·have := ih h4 (by omega); omega
  ·have : i = j := by omega
   subst this; exact h3
theorem asc_ge {l : List Int} {lo hi : Int} (h : isAsc l lo hi = true) : ∀ {i : Nat}, i < l.length → lo + i ≤ iat l i := by
 intro i
 induction i with
 | zero => intro h1; have := (asc_at h h1).1; omega
 | succ i ih =>
  intro h1
  have h2 := ih (by omega)
  have h3 := (asc_at h h1).2 (by omega)
  rw [Nat.add_sub_cancel] at h3
  omega
theorem asc_len {l : List Int} {w : Int} (h0 : 1 ≤ w) (h1 : w ≤ 120) (h : isAsc l 0 (w - 1) = true) : l.length ≤ 120 := by
 rcases Nat.lt_or_ge 120 l.length with h2 | h2
 ·have h3 := asc_ge h (i := 120) h2
  have h4 := (asc_at h (i := 120) h2).1
  omega
 ·exact h2
theorem within_of {x a b : Int} (h : a ≤ x ∧ x ≤ b) : within x a b = true := within_iff.2 h
structure ScrFine (s : ScrD) : Prop where
 gM : gridOk s.Main = true
 gA : gridOk s.Alt = true
 dim : s.Main.W = s.W ∧ s.Main.H = s.H ∧ s.Alt.W = s.W ∧ s.Alt.H = s.H
 pos : (0 ≤ s.X ∧ s.X < s.W) ∧ 0 ≤ s.Y ∧ s.Y < s.H
 sav : (0 ≤ s.SaveX ∧ s.SaveX < s.W) ∧ 0 ≤ s.SaveY ∧ s.SaveY < s.H
 wrp : s.Wrap = true → s.X = s.W - 1
 aA : attrOk s.A.Fg s.A.Bg = true
 aS : attrOk s.SaveA.Fg s.SaveA.Bg = true
 reg : (0 ≤ s.Top ∧ s.Top ≤ s.Bot) ∧ s.Bot < s.H ∧ (s.Top = s.Bot → s.H = 1)
 lim : (0 ≤ s.Limit ∧ s.Limit ≤ 100) ∧ (s.Back.length : Int) ≤ s.Limit
 tab : isAsc s.Tabs 0 (s.W - 1) = true
 row : s.Back.all rowOk = true
theorem ScrFine.of {s : ScrD} (h : scrOk s = true) : ScrFine s := by
 obtain ⟨h1, h2, h3, h4, h5, h6⟩ := scrOk_P h
 have hb := scrOk_bnd h
 have hm := scrOk_main h
 have ha := scrOk_attr h
 refine ⟨hm.1, hm.2, ⟨hb.1.2.2.1, hb.1.2.2.2.1, hb.1.2.2.2.2⟩, hb.2.1, hb.2.2.1, ?_, ha.1, ha.2, ⟨⟨hb.2.2.2.1.1, hb.2.2.2.1.2.1⟩, hb.2.2.2.1.2.2, ?_⟩, hb.2.2.2.2, h5, h6⟩
 ·intro hw
  unfold scrP2 at h2
  rw [hw] at h2
  simp only [Bool.and_eq_true, Bool.not_true, Bool.false_or, decide_eq_true_eq] at h2
  exact h2.2.1
 ·intro he
  unfold scrP3 at h3
  rw [he] at h3
  simp only [Bool.and_eq_true, decide_true, Bool.not_true, Bool.false_or, decide_eq_true_eq] at h3
  exact h3.2.2
theorem ScrFine.ok {s : ScrD} (h : ScrFine s) : scrOk s = true := by
 have b := gridOk_bnd h.gM
 obtain ⟨d1, d2, d3, d4⟩ := h.dim
 have hp := h.pos
 have hs := h.sav
 have hr := h.reg
 have hl := h.lim
 refine scrOk_all ?_ ?_ ?_ ?_ h.tab h.row
 ·unfold scrP1 gridFit
  simp [h.gM, h.gA, d1, d2, d3, d4]
 ·unfold scrP2 gridHas
  rw [within_of (by omega), within_of (by omega), within_of (by omega), within_of (by omega), h.aA, h.aS]
  have hw := h.wrp
  cases hq : s.Wrap
  ·rfl
  ·simp [hw hq]
 ·unfold scrP3
  simp only [Bool.and_eq_true, decide_eq_true_eq, Bool.or_eq_true, Bool.not_eq_true', decide_eq_false_iff_not]
  refine ⟨hr.1, hr.2.1, ?_⟩
  by_cases he : s.Top = s.Bot
  ·exact .inr (hr.2.2 he)
  ·exact .inl he
 ·unfold scrP4
  rw [within_of hl.1, Bool.true_and, decide_eq_true_eq]
  exact hl.2
theorem scr_tot {s : ScrD} (h : scrOk s = true) : totScr s ≤ 20220 := by
 have f := ScrFine.of h
 have m := gridOk_cells f.gM
 have a := gridOk_cells f.gA
 have b := back_bnd (scrOk_back h) f.lim.2 f.lim.1.2
 have t : s.Tabs.length ≤ 120 := by
  have hb := scrOk_bnd h
  exact asc_len (by omega) (by omega) f.tab
 show s.Main.Cells.length + s.Alt.Cells.length + s.Tabs.length + tots totRow s.Back ≤ 20220
 omega
theorem blank_ok : cellOk blankC = true := by decide
theorem grid_len {g : GridD} (hg : gridOk g = true) : (g.Cells.length : Int) = g.W * g.H := by
 unfold gridOk at hg; rw [Bool.and_eq_true, Bool.and_eq_true, decide_eq_true_eq] at hg; exact hg.1.2
theorem cat_ok {g : GridD} {k : Nat} (hg : gridOk g = true) (hk : k < g.Cells.length) : cellOk (cat g.Cells k) = true := by
 have h := (gridOk_cells hg).2
 unfold cellsOk at h
 rw [List.all_eq_true] at h
 exact h _ (gat_mem (F := encCell) hk)
theorem gmap_ok {g : GridD} {f : Nat → CellD} (hg : gridOk g = true) (h : ∀ k, k < g.Cells.length → cellOk (f k) = true) : gridOk (gmap g f) = true := by
 have hg' := hg
 unfold gridOk at hg' ⊢
 rw [Bool.and_eq_true, Bool.and_eq_true] at hg' ⊢
 refine ⟨⟨hg'.1.1, ?_⟩, ?_⟩
 ·rw [decide_eq_true_eq, gmap_len]; exact grid_len hg
 ·unfold cellsOk
  rw [List.all_eq_true]
  intro x hx
  obtain ⟨k, hk, rfl⟩ := List.mem_map.1 hx
  exact h k (List.mem_range.1 hk)
theorem idx_lt {g : GridD} {r : Int} {x : Nat} (hg : gridOk g = true) (h0 : 0 ≤ r) (h1 : r < g.H) (hx : x < g.W.toNat) : r.toNat * g.W.toNat + x < g.Cells.length := by
 have b := gridOk_bnd hg
 have l := grid_len hg
 have e : ((g.H.toNat * g.W.toNat : Nat) : Int) = g.W * g.H := by rw [Int.natCast_mul, Int.toNat_of_nonneg (by omega), Int.toNat_of_nonneg (by omega), Int.mul_comm]
 have m := Nat.mul_le_mul_right g.W.toNat (show r.toNat + 1 ≤ g.H.toNat by omega)
 rw [Nat.add_mul, Nat.one_mul] at m
 omega
theorem gRoll_ok {g : GridD} {top bot n : Int} (hg : gridOk g = true) (h0 : 0 ≤ top) (hb : bot < g.H) : gridOk (gRoll g top bot n) = true := by
 have b := gridOk_bnd hg
 refine gmap_ok hg (fun k hk => ?_)
 unfold rollF
 split
 ·split
  ·exact cat_ok hg (idx_lt hg (by omega) (by omega) (Nat.mod_lt _ (by omega)))
  ·exact blank_ok
 ·exact cat_ok hg hk
theorem gShift_ok {g : GridD} {x y n : Int} (hg : gridOk g = true) (h0 : 0 ≤ x) (hy : 0 ≤ y ∧ y < g.H) : gridOk (gShift g x y n) = true := by
 have b := gridOk_bnd hg
 refine gmap_ok hg (fun k hk => ?_)
 unfold shiftF
 split
 ·rename_i h
  split
  ·have := idx_lt (r := ((k / g.W.toNat : Nat) : Int)) (x := (((k % g.W.toNat : Nat) : Int) - n).toNat) hg (by omega) (by omega) (by omega)
   rw [Int.toNat_natCast] at this
   exact cat_ok hg this
  ·exact blank_ok
 ·exact cat_ok hg hk
theorem gFill_ok {g : GridD} {x y w h : Int} {c : CellD} (hg : gridOk g = true) (hc : cellOk c = true) : gridOk (gFill g x y w h c) = true := by
 refine gmap_ok hg (fun k hk => ?_)
 unfold fillFn
 split
 ·exact hc
 ·exact cat_ok hg hk
def shownD (s : ScrD) : GridD := if s.OnAlt = true then s.Alt else s.Main
def putD (s : ScrD) (g : GridD) : ScrD := if s.OnAlt = true then { s with Alt := g } else { s with Main := g }
def shownR (x : ScrR) : GridR := if x.OnAlt = true then x.Alt else x.Main
theorem shownR_dat {x : ScrR} : (shownR x).dat = shownD x.dat := by
 unfold shownR shownD
 by_cases h : x.OnAlt = true
 ·rw [if_pos h, if_pos (show x.dat.OnAlt = true from h)]; rfl
 ·rw [if_neg h, if_neg (show ¬ x.dat.OnAlt = true from h)]; rfl
theorem shownR_alt {x : ScrR} (h : x.OnAlt = true) : shownR x = x.Alt := if_pos h
theorem shownR_main {x : ScrR} (h : ¬ x.OnAlt = true) : shownR x = x.Main := if_neg h
theorem okScrR.shown {B : Nat} {w : World} {x : ScrR} (h : okScrR B w x) : okGridR B w (shownR x) := by
 unfold shownR; split
 ·exact h.Alt
 ·exact h.Main
theorem sepScrR.shown {T : List Nat} {x : ScrR} (h : sepScrR T x) : sepGridR T (shownR x) := by
 unfold shownR; split
 ·exact h.Alt
 ·exact h.Main
theorem ScrFine.shown {s : ScrD} (h : ScrFine s) : gridOk (shownD s) = true ∧ (shownD s).W = s.W ∧ (shownD s).H = s.H := by
 unfold shownD
 split
 ·exact ⟨h.gA, h.dim.2.2⟩
 ·exact ⟨h.gM, h.dim.1, h.dim.2.1⟩
theorem ScrFine.put {s : ScrD} {g : GridD} (h : ScrFine s) (hg : gridOk g = true) (hd : g.W = s.W ∧ g.H = s.H) : ScrFine (putD s g) := by
 unfold putD
 split
 ·exact ⟨h.gM, hg, ⟨h.dim.1, h.dim.2.1, hd⟩, h.pos, h.sav, h.wrp, h.aA, h.aS, h.reg, h.lim, h.tab, h.row⟩
 ·exact ⟨hg, h.gA, ⟨hd.1, hd.2, h.dim.2.2⟩, h.pos, h.sav, h.wrp, h.aA, h.aS, h.reg, h.lim, h.tab, h.row⟩
def rollD (s : ScrD) (top bot n : Int) : ScrD := putD s (gRoll (shownD s) top bot n)
def keepD (s : ScrD) (n : Int) : ScrD := if s.OnAlt = false ∧ s.Top = 0 then keepRows s (min n (s.Bot + 1)).toNat else s
def rollUpD (s : ScrD) (n : Int) : ScrD := rollD (keepD s n) s.Top s.Bot n
def wrapD (s : ScrD) (b : Bool) : ScrD := { s with Wrap := b }
def downD (s : ScrD) : ScrD := wrapD (if s.Y = s.Bot then rollUpD s 1 else if s.Y < s.H - 1 then { s with Y := s.Y + 1 } else s) false
def upD (s : ScrD) : ScrD := wrapD (if s.Y = s.Top then rollD s s.Top s.Bot (-1) else if s.Y > 0 then { s with Y := s.Y - 1 } else s) false
def saveD (s : ScrD) : ScrD := { s with SaveX := s.X, SaveY := s.Y, SaveA := s.A }
def backD (s : ScrD) : ScrD := { s with X := s.SaveX, Y := s.SaveY, A := s.SaveA, Wrap := false }
def tabL (s : ScrD) : List Int := ((List.range s.W.toNat).map (fun i : Nat => (i : Int))).filter (fun x => decide (x = s.X) || s.Tabs.contains x)
def tabD (s : ScrD) : ScrD := { s with Tabs := tabL s }
def resetD (s : ScrD) : ScrD := { scrNew s.W s.H s.Limit with Back := s.Back }
theorem ScrFine.roll {s : ScrD} {top bot n : Int} (h : ScrFine s) (h0 : 0 ≤ top) (hb : bot < s.H) : ScrFine (rollD s top bot n) := by
 have hs := h.shown
 exact h.put (gRoll_ok hs.1 h0 (by rw [hs.2.2]; exact hb)) hs.2
theorem rowAt_ok {g : GridD} {i : Nat} (hg : gridOk g = true) (hi : (i : Int) < g.H) : rowOk (rowAt g i) = true := by
 have b := gridOk_bnd hg
 have l := grid_len hg
 have h2 := idx_lt (r := (i : Int)) (x := 0) hg (by omega) hi (by omega)
 have h3 := idx_lt (r := (i : Int)) (x := g.W.toNat - 1) hg (by omega) hi (by omega)
 rw [Int.toNat_natCast] at h2 h3
 have hl : (rowAt g i).Cells.length = g.W.toNat := by
  show ((g.Cells.drop _).take _).length = _
  rw [List.length_take, List.length_drop]; omega
 unfold rowOk
 rw [Bool.and_eq_true]
 refine ⟨within_of (by omega), ?_⟩
 have hc := (gridOk_cells hg).2
 unfold cellsOk at hc ⊢
 rw [List.all_eq_true] at hc ⊢
 exact fun x hx => hc x (List.mem_of_mem_drop (List.mem_of_mem_take hx))
theorem ScrFine.keepRows {s : ScrD} {n : Nat} (h : ScrFine s) (hn : (n : Int) ≤ s.H) : ScrFine (keepRows s n) := by
 refine ⟨h.gM, h.gA, h.dim, h.pos, h.sav, h.wrp, h.aA, h.aS, h.reg, ⟨h.lim.1, ?_⟩, h.tab, ?_⟩
 ·show ((lastN _ _).length : Int) ≤ s.Limit
  rw [lastN_len]; have := h.lim.1; omega
 ·show (lastN _ _).all rowOk = true
  rw [List.all_eq_true]
  intro x hx
  rcases List.mem_append.1 (List.mem_of_mem_drop hx) with hx | hx
  ·exact List.all_eq_true.1 h.row x hx
  ·obtain ⟨i, hi, rfl⟩ := List.mem_map.1 hx
   exact rowAt_ok h.gM (by rw [h.dim.2.1]; have := List.mem_range.1 hi; omega)
theorem ScrFine.keep {s : ScrD} {n : Int} (h : ScrFine s) : ScrFine (keepD s n) := by
 unfold keepD
 split
 ·exact h.keepRows (by have := h.reg; omega)
 ·exact h
theorem keepD_eqs {s : ScrD} {n : Int} : (keepD s n).H = s.H ∧ (keepD s n).Top = s.Top ∧ (keepD s n).Bot = s.Bot ∧ (keepD s n).W = s.W ∧ (keepD s n).OnAlt = s.OnAlt ∧ (keepD s n).Main = s.Main ∧ (keepD s n).Alt = s.Alt := by
 unfold keepD; split <;> exact ⟨rfl, rfl, rfl, rfl, rfl, rfl, rfl⟩
theorem ScrFine.rollUp {s : ScrD} {n : Int} (h : ScrFine s) : ScrFine (rollUpD s n) := by
 have := h.reg
 exact h.keep.roll (by omega) (by rw [keepD_eqs.1]; omega)
theorem ScrFine.wrap0 {s : ScrD} (h : ScrFine s) : ScrFine (wrapD s false) :=
 ⟨h.gM, h.gA, h.dim, h.pos, h.sav, fun h9 => Bool.noConfusion h9, h.aA, h.aS, h.reg, h.lim, h.tab, h.row⟩
theorem ScrFine.y {s : ScrD} {y : Int} (h : ScrFine s) (hy : 0 ≤ y ∧ y < s.H) : ScrFine { s with Y := y } :=
 ⟨h.gM, h.gA, h.dim, ⟨h.pos.1, hy⟩, h.sav, h.wrp, h.aA, h.aS, h.reg, h.lim, h.tab, h.row⟩
theorem ScrFine.down {s : ScrD} (h : ScrFine s) : ScrFine (downD s) := by
 have hp := h.pos
 refine ScrFine.wrap0 ?_
 split
 ·exact h.rollUp
 ·split
  ·exact h.y (by omega)
  ·exact h
theorem ScrFine.up {s : ScrD} (h : ScrFine s) : ScrFine (upD s) := by
 have hp := h.pos
 have hr := h.reg
 refine ScrFine.wrap0 ?_
 split
 ·exact h.roll (by omega) (by omega)
 ·split
  ·exact h.y (by omega)
  ·exact h
theorem ScrFine.save {s : ScrD} (h : ScrFine s) : ScrFine (saveD s) :=
 ⟨h.gM, h.gA, h.dim, h.pos, h.pos, h.wrp, h.aA, h.aA, h.reg, h.lim, h.tab, h.row⟩
theorem ScrFine.back {s : ScrD} (h : ScrFine s) : ScrFine (backD s) :=
 ⟨h.gM, h.gA, h.dim, h.sav, h.sav, fun h9 => Bool.noConfusion h9, h.aS, h.aS, h.reg, h.lim, h.tab, h.row⟩
theorem roll_row {g : GridD} {top bot n : Int} {a k lo m : Nat} {xs ys : List CellD} (h0 : 0 ≤ top) (hlo : lo = (top.toNat + a) * g.W.toNat) (hm : m = g.W.toNat) (hy : m ≤ ys.length) (hx : lo + m ≤ xs.length) (hk : k < xs.length) (hb : top + a ≤ bot)
  (hv : ∀ j, j < g.W.toNat → cat ys j = if top ≤ top + a + n ∧ top + a + n ≤ bot then cat g.Cells ((top + a + n).toNat * g.W.toNat + j) else blankC) (hq : cat xs k = partF g (rollF g top bot n) (top.toNat * g.W.toNat) (a * g.W.toNat) k) :
  cat (xs.take lo ++ ys.take m ++ xs.drop (lo + m)) k = partF g (rollF g top bot n) (top.toNat * g.W.toNat) ((a + 1) * g.W.toNat) k := by
 rw [gat_splice2 hy hx hk, Nat.add_mul a 1, Nat.one_mul, partF_add, ← Nat.add_mul, ← hlo, hm]
 split
 ·rename_i hr
  rw [hv _ (by omega)]
  have e : k = (top.toNat + a) * g.W.toNat + (k - lo) := by omega
  have e2 : rollF g top bot n k = rollF g top bot n ((top.toNat + a) * g.W.toNat + (k - lo)) := congrArg _ e
  rw [e2, rollF_row (by omega) (by omega) (by omega), show ((top.toNat + a : Nat) : Int) = top + a by omega]
 ·exact hq
theorem roll_src {g : GridD} {y : Int} {j lo m : Nat} (hy : 0 ≤ y) (hw : 0 ≤ g.W) (hlo : lo = (y * g.W).toNat) (hm : m = g.W.toNat) (hj : j < g.W.toNat) : cat ((g.Cells.drop lo).take m) j = cat g.Cells (y.toNat * g.W.toNat + j) := by
 show gat encCell _ _ = _
 rw [gat_cut (by omega), hlo, Int.toNat_mul hy hw]
theorem cat_rep {n j : Nat} {x : CellD} (h : j < n) : cat (List.replicate n x) j = x := by
 show gat encCell _ _ = _
 rw [gat_lt (by rw [List.length_replicate]; exact h), List.getElem_replicate]
def sgrOne (a : AttrD) (n : Int) : AttrD :=
 if n = 0 then ⟨0, 0, false, false, false⟩
 else if n = 1 ∨ n = 22 then { a with Bold := decide (n = 1) }
 else if n = 4 ∨ n = 24 then { a with Under := decide (n = 4) }
 else if n = 7 ∨ n = 27 then { a with Turn := decide (n = 7) }
 else if 30 ≤ n ∧ n ≤ 37 then { a with Fg := n - 29 }
 else if n = 39 then { a with Fg := 0 }
 else if 40 ≤ n ∧ n ≤ 47 then { a with Bg := n - 39 }
 else if n = 49 then { a with Bg := 0 } else a
def sgrAll (a : AttrD) (l : List Int) : AttrD := l.foldl sgrOne a
theorem sgrAll_take {a : AttrD} {l : List Int} {i : Nat} (h : i < l.length) : sgrAll a (l.take (i + 1)) = sgrOne (sgrAll a (l.take i)) (iat l i) := by
 unfold sgrAll
 rw [List.take_add_one, gat_get (F := encI) h, List.foldl_append]
 rfl
def sgrRes (a : AttrD) (l : List Int) : AttrD := if attrOk a.Fg a.Bg = true ∧ 0 < l.length then sgrAll a l else ⟨0, 0, false, false, false⟩
theorem attrOk_iff {a b : Int} : attrOk a b = true ↔ (0 ≤ a ∧ a ≤ 8) ∧ 0 ≤ b ∧ b ≤ 8 := by
 unfold attrOk; rw [Bool.and_eq_true, within_iff, within_iff]
theorem sgrOne_ok {a : AttrD} {n : Int} (h : attrOk a.Fg a.Bg = true) : attrOk (sgrOne a n).Fg (sgrOne a n).Bg = true := by
 rw [attrOk_iff] at h ⊢
 unfold sgrOne
 repeat' split
 all_goals (first | omega | (simp only; omega))
theorem sgrAll_ok {l : List Int} : ∀ {a : AttrD}, attrOk a.Fg a.Bg = true → attrOk (sgrAll a l).Fg (sgrAll a l).Bg = true := by
 induction l with
 | nil => exact fun h => h
 | cons x r ih => exact fun h => ih (sgrOne_ok h)
theorem sgrRes_ok {a : AttrD} {l : List Int} : attrOk (sgrRes a l).Fg (sgrRes a l).Bg = true := by
 unfold sgrRes
 split
 ·rename_i h; exact sgrAll_ok h.1
 ·decide
def argI (l : List Int) (k : Nat) (d : Int) : Int := if k < l.length ∧ iat l k ≠ 0 then iat l k else d
theorem argI_bnd {l : List Int} {k : Nat} {d : Int} (h : areArgs l = true) (hd : 0 ≤ d ∧ d ≤ 9999) : 0 ≤ argI l k d ∧ argI l k d ≤ 9999 := by
 unfold argI
 split
 ·rename_i h1
  exact (areArgs_iff.1 h).2 _ (gat_mem (F := encI) h1.1)
 ·exact hd
theorem argI_pos {l : List Int} {k : Nat} {d : Int} (h : areArgs l = true) (hd : 1 ≤ d ∧ d ≤ 9999) : 1 ≤ argI l k d ∧ argI l k d ≤ 9999 := by
 have h0 := argI_bnd (k := k) h (d := d) (by omega)
 unfold argI at h0 ⊢
 split at h0
 ·rename_i h1; rw [if_pos h1]; have := h1.2; omega
 ·rename_i h1; rw [if_neg h1]; exact hd
def clampI (x hi : Int) : Int := max 0 (min x hi)
theorem clampI_bnd {x w : Int} (h : 1 ≤ w) : 0 ≤ clampI x (w - 1) ∧ clampI x (w - 1) < w := by unfold clampI; omega
def moveD (s : ScrD) (x y : Int) : ScrD := { s with X := clampI x (s.W - 1), Y := clampI y (s.H - 1), Wrap := false }
def clearF (g : GridD) (a b : Int) (k : Nat) : CellD := if a ≤ (k : Int) ∧ (k : Int) < b then blankC else cat g.Cells k
def clearD (s : ScrD) (a b : Int) : ScrD := putD s (gmap (shownD s) (clearF (shownD s) a b))
def eraseD (s : ScrD) (a b k : Int) : ScrD :=
 if k = 0 then clearD s (s.Y * s.W + s.X) b else if k = 1 then clearD s a (s.Y * s.W + s.X + 1) else if k = 2 then clearD s a b else s
def regionD (s : ScrD) (l : List Int) : ScrD :=
 if argI l 0 1 - 1 < argI l 1 s.H - 1 ∧ argI l 1 s.H - 1 < s.H then moveD { s with Top := argI l 0 1 - 1, Bot := argI l 1 s.H - 1 } 0 0 else s
def tabsD (s : ScrD) (k : Int) : ScrD := { s with Tabs := s.Tabs.filter fun x => (decide (k = 0) && !decide (x = s.X)) || (!decide (k = 0) && !decide (k = 3)) }
def linesD (s : ScrD) (n : Int) : ScrD := if within s.Y s.Top s.Bot = true then { rollD s s.Y s.Bot n with X := 0, Wrap := false } else s
def modeD (s : ScrD) (n : Int) (on : Bool) : ScrD :=
 if n = 7 then { s with NoWrap := !on, Wrap := s.Wrap && on }
 else if n = 25 then { s with Hide := !on }
 else if (n = 1049 ∧ on = true) ∧ s.OnAlt = false then { saveD s with Alt := gridNew s.W s.H, OnAlt := true }
 else if (n = 1049 ∧ on = false) ∧ s.OnAlt = true then backD { s with OnAlt := false } else s
def csiD (s : ScrD) (l : List Int) (b : Int) : ScrD :=
 if b = 65 then moveD s s.X (s.Y - argI l 0 1)
 else if b = 66 then moveD s s.X (s.Y + argI l 0 1)
 else if b = 67 then moveD s (s.X + argI l 0 1) s.Y
 else if b = 68 then moveD s (s.X - argI l 0 1) s.Y
 else if b = 71 then moveD s (argI l 0 1 - 1) s.Y
 else if b = 100 then moveD s s.X (argI l 0 1 - 1)
 else if b = 72 ∨ b = 102 then moveD s (argI l 1 1 - 1) (argI l 0 1 - 1)
 else if b = 74 then eraseD s 0 (s.W * s.H) (argI l 0 0)
 else if b = 75 then eraseD s (s.Y * s.W) ((s.Y + 1) * s.W) (argI l 0 0)
 else if b = 88 then clearD s (s.Y * s.W + s.X) (min (s.Y * s.W + s.X + argI l 0 1) ((s.Y + 1) * s.W))
 else if b = 64 then putD s (gShift (shownD s) s.X s.Y (argI l 0 1))
 else if b = 80 then putD s (gShift (shownD s) s.X s.Y (-argI l 0 1))
 else if b = 76 then linesD s (-argI l 0 1)
 else if b = 77 then linesD s (argI l 0 1)
 else if b = 83 then rollUpD s (argI l 0 1)
 else if b = 84 then rollD s s.Top s.Bot (-argI l 0 1)
 else if b = 109 then { s with A := sgrRes s.A l }
 else if b = 114 then regionD s l
 else if b = 103 then tabsD s (argI l 0 0)
 else s
def seqD (s : ScrD) (mark : Bool) (l : List Int) (b : Int) : ScrD :=
 if mark = false then csiD s l b else if b = 104 ∨ b = 108 then l.foldl (fun s n => modeD s n (decide (b = 104))) s else s
def csiOk (s : ScrD) (l : List Int) : Bool := areArgs l && scrOk s
def scrCsiRes (s : ScrD) (mark : Bool) (l : List Int) (b : Int) : ScrD := if csiOk s l = true then seqD s mark l b else scr0
theorem ScrFine.move {s : ScrD} {x y : Int} (h : ScrFine s) : ScrFine (moveD s x y) := by
 have hp := h.pos
 exact ⟨h.gM, h.gA, h.dim, ⟨clampI_bnd (by omega), clampI_bnd (by omega)⟩, h.sav, fun h9 => Bool.noConfusion h9, h.aA, h.aS, h.reg, h.lim, h.tab, h.row⟩
theorem ScrFine.clear {s : ScrD} {a b : Int} (h : ScrFine s) : ScrFine (clearD s a b) := by
 have hs := h.shown
 refine h.put (gmap_ok hs.1 (fun k hk => ?_)) hs.2
 unfold clearF
 split
 ·exact blank_ok
 ·exact cat_ok hs.1 hk
theorem ScrFine.erase {s : ScrD} {a b k : Int} (h : ScrFine s) : ScrFine (eraseD s a b k) := by
 unfold eraseD
 repeat' split
 all_goals first | exact h.clear | exact h
theorem ScrFine.region {s : ScrD} {l : List Int} (h : ScrFine s) (hl : areArgs l = true) : ScrFine (regionD s l) := by
 have b := gridOk_bnd h.gM
 obtain ⟨d1, d2, _⟩ := h.dim
 unfold regionD
 split
 ·rename_i hr
  have h1 := argI_pos (k := 0) hl (d := 1) (by omega)
  have h' : ScrFine { s with Top := argI l 0 1 - 1, Bot := argI l 1 s.H - 1 } := ⟨h.gM, h.gA, h.dim, h.pos, h.sav, h.wrp, h.aA, h.aS, ⟨by constructor <;> (simp only; omega), hr.2, fun he => by simp only at he; omega⟩, h.lim, h.tab, h.row⟩
  exact h'.move
 ·exact h
theorem ScrFine.wx {s : ScrD} (h : ScrFine s) : ScrFine { s with X := 0, Wrap := false } := by
 have hp := h.pos
 exact ⟨h.gM, h.gA, h.dim, ⟨by constructor <;> (simp only; omega), hp.2⟩, h.sav, fun h9 => Bool.noConfusion h9, h.aA, h.aS, h.reg, h.lim, h.tab, h.row⟩
theorem ScrFine.lines {s : ScrD} {n : Int} (h : ScrFine s) : ScrFine (linesD s n) := by
 unfold linesD
 split
 ·rename_i hw
  rw [within_iff] at hw
  have hr := h.reg
  exact (h.roll (by omega) (by omega)).wx
 ·exact h
theorem asc_pair {l : List Int} {lo hi : Int} : isAsc l lo hi = true ↔ l.Pairwise (· < ·) ∧ ∀ x, x ∈ l → lo ≤ x ∧ x ≤ hi := by
 constructor
 ·intro h
  constructor
  ·rw [List.pairwise_iff_getElem]
   intro i j hi' hj hij
   have := asc_lt h hij hj
   rwa [show iat l i = l[i] from gat_lt hi', show iat l j = l[j] from gat_lt hj] at this
  ·intro x hx
   obtain ⟨i, hi', rfl⟩ := List.mem_iff_getElem.1 hx
   have := (asc_at h hi').1
   rwa [show iat l i = l[i] from gat_lt hi'] at this
 ·rintro ⟨h1, h2⟩
  refine isAsc_all fun i hi' => ?_
  unfold ascAt
  rw [Bool.and_eq_true, within_iff, Bool.or_eq_true, decide_eq_true_eq, decide_eq_true_eq, show iat l i = l[i] from gat_lt hi']
  refine ⟨h2 _ (List.getElem_mem hi'), ?_⟩
  rcases Nat.eq_zero_or_pos i with h3 | h3
  ·exact .inl h3
  ·right
   rw [show iat l (i - 1) = l[i - 1] from gat_lt (by omega)]
   exact List.pairwise_iff_getElem.1 h1 (i - 1) i (by omega) hi' (by omega)
theorem asc_sub {l m : List Int} {lo hi : Int} (h : isAsc l lo hi = true) (hm : m.Sublist l) : isAsc m lo hi = true := by
 rw [asc_pair] at h ⊢
 exact ⟨h.1.sublist hm, fun x hx => h.2 x (hm.subset hx)⟩
theorem ScrFine.tabs {s : ScrD} {l : List Int} (h : ScrFine s) (hl : isAsc l 0 (s.W - 1) = true) : ScrFine { s with Tabs := l } :=
 ⟨h.gM, h.gA, h.dim, h.pos, h.sav, h.wrp, h.aA, h.aS, h.reg, h.lim, hl, h.row⟩
theorem ScrFine.sgr {s : ScrD} {l : List Int} (h : ScrFine s) : ScrFine { s with A := sgrRes s.A l } :=
 ⟨h.gM, h.gA, h.dim, h.pos, h.sav, h.wrp, sgrRes_ok, h.aS, h.reg, h.lim, h.tab, h.row⟩
theorem ScrFine.shift {s : ScrD} {n : Int} (h : ScrFine s) : ScrFine (putD s (gShift (shownD s) s.X s.Y n)) := by
 have hs := h.shown
 have hp := h.pos
 exact h.put (gShift_ok hs.1 hp.1.1 (by rw [hs.2.2]; exact hp.2)) hs.2
theorem fine_ite {p : Prop} [Decidable p] {a b : ScrD} (ha : ScrFine a) (hb : ScrFine b) : ScrFine (if p then a else b) := by
 by_cases h : p
 ·rw [if_pos h]; exact ha
 ·rw [if_neg h]; exact hb
theorem ScrFine.csi {s : ScrD} {l : List Int} {b : Int} (h : ScrFine s) (hl : areArgs l = true) : ScrFine (csiD s l b) := by
 have hr := h.reg
 unfold csiD
 repeat' (with_reducible refine fine_ite ?_ ?_)
 all_goals first | exact h.move | exact h.erase | exact h.clear | exact h.shift | exact h.lines | exact h.rollUp | exact h.roll (by omega) (by omega) | exact h.sgr | exact h.region hl | exact h.tabs (asc_sub h.tab List.filter_sublist) | exact h
theorem isSize_of {g : GridD} (hg : gridOk g = true) : isSize g.W g.H = true := by
 unfold gridOk at hg; rw [Bool.and_eq_true, Bool.and_eq_true] at hg; exact hg.1.1
theorem ScrFine.size {s : ScrD} (h : ScrFine s) : isSize s.W s.H = true := by
 have := isSize_of h.gM
 rwa [h.dim.1, h.dim.2.1] at this
theorem ScrFine.mode {s : ScrD} {n : Int} {on : Bool} (h : ScrFine s) : ScrFine (modeD s n on) := by
 unfold modeD
 split
 ·exact ⟨h.gM, h.gA, h.dim, h.pos, h.sav, fun h9 => h.wrp (by simp only [Bool.and_eq_true] at h9; exact h9.1), h.aA, h.aS, h.reg, h.lim, h.tab, h.row⟩
 ·split
  ·exact ⟨h.gM, h.gA, h.dim, h.pos, h.sav, h.wrp, h.aA, h.aS, h.reg, h.lim, h.tab, h.row⟩
  ·split
   ·exact ⟨h.gM, gridOk_new h.size, ⟨h.dim.1, h.dim.2.1, rfl, rfl⟩, h.pos, h.pos, h.wrp, h.aA, h.aA, h.reg, h.lim, h.tab, h.row⟩
   ·split
    ·exact ⟨h.gM, h.gA, h.dim, h.sav, h.sav, fun h9 => Bool.noConfusion h9, h.aS, h.aS, h.reg, h.lim, h.tab, h.row⟩
    ·exact h
def modesD (s : ScrD) (l : List Int) (on : Bool) : ScrD := l.foldl (fun s n => modeD s n on) s
theorem modesD_take {s : ScrD} {l : List Int} {i : Nat} {on : Bool} (h : i < l.length) : modesD s (l.take (i + 1)) on = modeD (modesD s (l.take i) on) (iat l i) on := by
 unfold modesD
 rw [List.take_add_one, gat_get (F := encI) h, List.foldl_append]
 rfl
theorem ScrFine.modes {l : List Int} {on : Bool} : ∀ {s : ScrD}, ScrFine s → ScrFine (modesD s l on) := by
 induction l with
 | nil => exact fun h => h
 | cons x r ih => exact fun h => ih h.mode
theorem ScrFine.seq {s : ScrD} {mark : Bool} {l : List Int} {b : Int} (h : ScrFine s) (hl : areArgs l = true) : ScrFine (seqD s mark l b) := by
 unfold seqD
 split
 ·exact h.csi hl
 ·split
  ·exact ScrFine.modes h
  ·exact h
theorem pair_ext : ∀ {l m : List Int}, l.Pairwise (· < ·) → m.Pairwise (· < ·) → (∀ x, x ∈ l ↔ x ∈ m) → l = m
 | [], [], _, _, _ => rfl
 | [], y :: m, _, _, h => by have := (h y).2 List.mem_cons_self; cases this
 | x :: l, [], _, _, h => by have := (h x).1 List.mem_cons_self; cases this
 | x :: l, y :: m, hl, hm, h => by
  rw [List.pairwise_cons] at hl hm
  have e : x = y := by
   rcases List.mem_cons.1 ((h x).1 List.mem_cons_self) with e | h1
   ·exact e
   ·rcases List.mem_cons.1 ((h y).2 List.mem_cons_self) with e | h2
    ·exact e.symm
    ·have := hl.1 y h2
     have := hm.1 x h1
     omega
  subst e
  rw [pair_ext hl.2 hm.2 fun z => ?_]
  constructor
  ·intro hz
   rcases List.mem_cons.1 ((h z).1 (List.mem_cons_of_mem _ hz)) with e | h1
   ·have := hl.1 z hz; omega
   ·exact h1
  ·intro hz
   rcases List.mem_cons.1 ((h z).2 (List.mem_cons_of_mem _ hz)) with e | h1
   ·have := hm.1 z hz; omega
   ·exact h1
def lowb (l : List Int) (t : Int) : Nat := (l.filter fun x => decide (x < t)).length
theorem lowb_of {l : List Int} {t : Int} {k : Nat} (hk : k ≤ l.length) (h1 : ∀ m, m < k → iat l m < t) (h2 : ∀ m, k ≤ m → m < l.length → t ≤ iat l m) : lowb l t = k := by
 unfold lowb
 rw [← List.take_append_drop k l, List.filter_append]
 have a : (l.take k).filter (fun x => decide (x < t)) = l.take k := by
  rw [List.filter_eq_self]
  intro x hx
  obtain ⟨i, hi, rfl⟩ := List.mem_iff_getElem.1 hx
  rw [List.length_take] at hi
  have := h1 i (by omega)
  rw [show iat l i = l[i]'(by omega) from gat_lt (by omega)] at this
  rw [List.getElem_take, decide_eq_true_eq]; exact this
 have b : (l.drop k).filter (fun x => decide (x < t)) = [] := by
  rw [List.filter_eq_nil_iff]
  intro x hx
  obtain ⟨i, hi, rfl⟩ := List.mem_iff_getElem.1 hx
  rw [List.length_drop] at hi
  have := h2 (k + i) (by omega) (by omega)
  rw [show iat l (k + i) = l[k + i]'(by omega) from gat_lt (by omega)] at this
  rw [List.getElem_drop, decide_eq_true_eq]; omega
 rw [a, b, List.append_nil, List.length_take]; omega
theorem lowb_le {l : List Int} {t : Int} : lowb l t ≤ l.length := List.length_filter_le _ _
theorem asc_split {l : List Int} {lo hi t : Int} (h : isAsc l lo hi = true) : (∀ m, m < lowb l t → iat l m < t) ∧ ∀ m, lowb l t ≤ m → m < l.length → t ≤ iat l m := by
 have key : ∃ k, k ≤ l.length ∧ (∀ m, m < k → iat l m < t) ∧ ∀ m, k ≤ m → m < l.length → t ≤ iat l m := by
  have : ∀ n, n ≤ l.length → ∃ k, k ≤ n ∧ (∀ m, m < k → iat l m < t) ∧ ∀ m, k ≤ m → m < n → t ≤ iat l m := by
   intro n
   induction n with
   | zero => intro _; exact ⟨0, by omega, fun m hm => by omega, fun m _ hm => by omega⟩
   | succ n ih =>
    intro hn
    obtain ⟨k, h1, h2, h3⟩ := ih (by omega)
    by_cases hx : iat l n < t
    ·refine ⟨n + 1, by omega, fun m hm => ?_, fun m h4 h5 => by omega⟩
     rcases Nat.lt_or_ge m n with h6 | h6
     ·have := asc_lt h h6 (by omega); omega
     ·obtain rfl : m = n := by omega
      exact hx
    ·refine ⟨k, by omega, h2, fun m h4 h5 => ?_⟩
     rcases Nat.lt_or_ge m n with h6 | h6
     ·exact h3 m h4 h6
     ·obtain rfl : m = n := by omega
      omega
  exact this _ (Nat.le_refl _)
 obtain ⟨k, h1, h2, h3⟩ := key
 rw [lowb_of h1 h2 h3]
 exact ⟨h2, h3⟩
def insL (l : List Int) (k : Nat) (x : Int) : List Int := l.take k ++ [x] ++ l.drop k
theorem mem_insL {l : List Int} {k : Nat} {x y : Int} : y ∈ insL l k x ↔ y = x ∨ y ∈ l := by
 unfold insL
 rw [List.append_assoc, List.mem_append, List.mem_append, List.mem_singleton]
 constructor
 ·rintro (h | h | h)
  ·exact .inr (List.mem_of_mem_take h)
  ·exact .inl h
  ·exact .inr (List.mem_of_mem_drop h)
 ·rintro (h | h)
  ·exact .inr (.inl h)
  ·rw [← List.take_append_drop k l] at h
   rcases List.mem_append.1 h with h | h
   ·exact .inl h
   ·exact .inr (.inr h)
theorem pair_insL {l : List Int} {x : Int} {lo hi : Int} (h : isAsc l lo hi = true) (hx : x ∉ l) : (insL l (lowb l x) x).Pairwise (· < ·) := by
 have hp := (asc_pair.1 h).1
 obtain ⟨h1, h2⟩ := asc_split (t := x) h
 have hT : ∀ a, a ∈ l.take (lowb l x) → a < x := by
  intro a ha
  obtain ⟨i, hi', rfl⟩ := List.mem_iff_getElem.1 ha
  rw [List.length_take] at hi'
  have := h1 i (by omega)
  rw [show iat l i = l[i]'(by omega) from gat_lt (by omega)] at this
  rw [List.getElem_take]; exact this
 have hD : ∀ a, a ∈ l.drop (lowb l x) → x < a := by
  intro a ha
  have hm := List.mem_of_mem_drop ha
  obtain ⟨i, hi', rfl⟩ := List.mem_iff_getElem.1 ha
  rw [List.length_drop] at hi'
  have := h2 (lowb l x + i) (by omega) (by omega)
  rw [show iat l (lowb l x + i) = l[lowb l x + i]'(by omega) from gat_lt (by omega)] at this
  rw [List.getElem_drop] at hm ⊢
  have : l[lowb l x + i]'(by omega) ≠ x := fun e => hx (e ▸ hm)
  omega
 unfold insL
 rw [List.append_assoc, List.pairwise_append]
 refine ⟨hp.sublist (List.take_sublist _ _), ?_, ?_⟩
 ·rw [List.singleton_append, List.pairwise_cons]
  exact ⟨hD, hp.sublist (List.drop_sublist _ _)⟩
 ·intro a ha b hb
  have h3 := hT a ha
  rcases List.mem_append.1 hb with hb | hb
  ·rw [List.mem_singleton] at hb; omega
  ·have := hD b hb; omega
theorem mem_tabL {s : ScrD} (h : ScrFine s) {y : Int} : y ∈ tabL s ↔ y = s.X ∨ y ∈ s.Tabs := by
 have hp := h.pos
 unfold tabL
 rw [List.mem_filter, List.mem_map]
 simp only [Bool.or_eq_true, decide_eq_true_eq, List.contains_iff_mem]
 constructor
 ·exact fun h1 => h1.2
 ·intro h1
  refine ⟨?_, h1⟩
  have : 0 ≤ y ∧ y < s.W := by
   rcases h1 with h1 | h1
   ·omega
   ·have := (asc_pair.1 h.tab).2 y h1; omega
  exact ⟨y.toNat, List.mem_range.2 (by omega), by omega⟩
theorem pair_tabL {s : ScrD} : (tabL s).Pairwise (· < ·) := by
 unfold tabL
 refine List.Pairwise.sublist List.filter_sublist ?_
 rw [List.pairwise_map]
 exact List.Pairwise.imp (fun h => by omega) List.pairwise_lt_range
theorem tabL_ins {s : ScrD} (h : ScrFine s) (hx : s.X ∉ s.Tabs) : insL s.Tabs (lowb s.Tabs s.X) s.X = tabL s :=
 pair_ext (pair_insL h.tab hx) pair_tabL fun y => by rw [mem_insL, mem_tabL h]
theorem tabL_has {s : ScrD} (h : ScrFine s) (hx : s.X ∈ s.Tabs) : s.Tabs = tabL s :=
 pair_ext (asc_pair.1 h.tab).1 pair_tabL fun y => by
  rw [mem_tabL h]
  constructor
  ·exact .inr
  ·rintro (rfl | h1)
   ·exact hx
   ·exact h1
theorem ScrFine.tabD {s : ScrD} (h : ScrFine s) : ScrFine (tabD s) := by
 have hp := h.pos
 refine h.tabs (asc_pair.2 ⟨pair_tabL, fun y hy => ?_⟩)
 rcases (mem_tabL h).1 hy with h1 | h1
 ·omega
 ·exact (asc_pair.1 h.tab).2 y h1
theorem tabsL_asc {w : Int} (h : 1 ≤ w) : isAsc (tabsL w) 0 (w - 1) = true := by
 rw [asc_pair]
 constructor
 ·unfold tabsL
  rw [List.pairwise_map]
  exact List.Pairwise.imp (fun h => by omega) List.pairwise_lt_range
 ·intro x hx
  obtain ⟨i, hi, rfl⟩ := List.mem_map.1 hx
  have := List.mem_range.1 hi
  omega
theorem ScrFine.fresh {w h l : Int} (hs : isSize w h = true) (hl : 0 ≤ l ∧ l ≤ 100) : ScrFine (scrNew w h l) := by
 obtain ⟨h1, h2, _⟩ := isSize_bnd hs
 refine ⟨gridOk_new hs, gridOk_new hs, ⟨rfl, rfl, rfl, rfl⟩, ?_, ?_, fun h9 => Bool.noConfusion h9, (show attrOk 0 0 = true by decide), (show attrOk 0 0 = true by decide), ?_, ⟨hl, ?_⟩, tabsL_asc h1.1, rfl⟩
 ·show (0 ≤ (0 : Int) ∧ (0 : Int) < w) ∧ 0 ≤ (0 : Int) ∧ (0 : Int) < h; omega
 ·show (0 ≤ (0 : Int) ∧ (0 : Int) < w) ∧ 0 ≤ (0 : Int) ∧ (0 : Int) < h; omega
 ·show (0 ≤ (0 : Int) ∧ (0 : Int) ≤ h - 1) ∧ h - 1 < h ∧ ((0 : Int) = h - 1 → h = 1); omega
 ·exact hl.1
theorem ScrFine.reset {s : ScrD} (h : ScrFine s) : ScrFine (resetD s) := by
 have f := ScrFine.fresh h.size h.lim.1
 exact ⟨f.gM, f.gA, f.dim, f.pos, f.sav, f.wrp, f.aA, f.aS, f.reg, h.lim, f.tab, h.row⟩
def escD (s : ScrD) (b : Int) : ScrD :=
 if b = 68 then downD s else if b = 77 then upD s else if b = 69 then { downD s with X := 0 } else if b = 55 then saveD s else if b = 56 then backD s else if b = 72 then tabD s else if b = 99 then resetD s else s
theorem ScrFine.x0 {s : ScrD} (h : ScrFine s) (hw : s.Wrap = false) : ScrFine { s with X := 0 } := by
 have hp := h.pos
 exact ⟨h.gM, h.gA, h.dim, ⟨by constructor <;> (simp only; omega), hp.2⟩, h.sav, fun h9 => (by rw [show s.Wrap = true from h9] at hw; cases hw), h.aA, h.aS, h.reg, h.lim, h.tab, h.row⟩
theorem ScrFine.esc {s : ScrD} {b : Int} (h : ScrFine s) : ScrFine (escD s b) := by
 unfold escD
 repeat' (with_reducible refine fine_ite ?_ ?_)
 all_goals first | exact h.down | exact h.up | exact h.down.x0 rfl | exact h.save | exact h.back | exact h.tabD | exact h.reset | exact h
def scrEscRes (s : ScrD) (b : Int) : ScrD := if scrOk s = true then escD s b else scr0
def runeD (s : ScrD) (r : Int) : ScrD :=
 let s1 := if s.Wrap = true then { downD s with X := 0 } else s
 let s2 := putD s1 (gFill (shownD s1) s1.X s1.Y 1 1 ⟨r, s1.A⟩)
 if s1.X = s1.W - 1 then wrapD s2 (!s1.NoWrap) else { s2 with X := s1.X + 1 }
def nextTab (s : ScrD) : Int := if 0 ≤ findI (fun n => decide (s.X < n)) s.Tabs then iat s.Tabs (findI (fun n => decide (s.X < n)) s.Tabs).toNat else s.W - 1
def ctlD (s : ScrD) (b : Int) : ScrD :=
 if b = 8 then moveD s (s.X - 1) s.Y else if b = 9 then moveD s (nextTab s) s.Y else if b = 10 ∨ b = 11 ∨ b = 12 then downD s else if b = 13 then moveD s 0 s.Y else s
def scrRuneRes (s : ScrD) (r : Int) : ScrD := if scrOk s = true then (if shows r = true then runeD s r else s) else scr0
def scrCtlRes (s : ScrD) (b : Int) : ScrD := if scrOk s = true then ctlD s b else scr0
def scrGoRes (s : ScrD) (x y : Int) : ScrD := if scrOk s = true then moveD s x y else scr0
def scrCopyRes (s : ScrD) : ScrD := if scrOk s = true then s else scr0
theorem putD_eqs {s : ScrD} {g : GridD} : (putD s g).X = s.X ∧ (putD s g).W = s.W ∧ (putD s g).NoWrap = s.NoWrap ∧ (putD s g).Y = s.Y ∧ (putD s g).OnAlt = s.OnAlt ∧ (putD s g).Wrap = s.Wrap := by
 unfold putD; split <;> exact ⟨rfl, rfl, rfl, rfl, rfl, rfl⟩
theorem ScrFine.rune {s : ScrD} {r : Int} (h : ScrFine s) (hr : shows r = true) : ScrFine (runeD s r) := by
 have h1 : ScrFine (if s.Wrap = true then { downD s with X := 0 } else s) := by
  split
  ·exact h.down.x0 rfl
  ·exact h
 unfold runeD
 generalize (if s.Wrap = true then { downD s with X := 0 } else s) = s1 at h1
 have hp := h1.pos
 have hs := h1.shown
 have h2 : ScrFine (putD s1 (gFill (shownD s1) s1.X s1.Y 1 1 ⟨r, s1.A⟩)) := h1.put (gFill_ok hs.1 (by unfold cellOk; rw [hr, h1.aA]; rfl)) hs.2
 obtain ⟨e1, e2, _, _, _, _⟩ := putD_eqs (s := s1) (g := gFill (shownD s1) s1.X s1.Y 1 1 ⟨r, s1.A⟩)
 show ScrFine (if s1.X = s1.W - 1 then _ else _)
 split
 ·rename_i hx
  exact ⟨h2.gM, h2.gA, h2.dim, h2.pos, h2.sav, fun _ => by show (putD _ _).X = (putD _ _).W - 1; rw [e1, e2]; exact hx, h2.aA, h2.aS, h2.reg, h2.lim, h2.tab, h2.row⟩
 ·rename_i hx
  refine ⟨h2.gM, h2.gA, h2.dim, ⟨?_, h2.pos.2⟩, h2.sav, ?_, h2.aA, h2.aS, h2.reg, h2.lim, h2.tab, h2.row⟩
  ·show 0 ≤ s1.X + 1 ∧ s1.X + 1 < (putD _ _).W
   rw [e2]; omega
  ·intro hw
   have h3 := h2.wrp hw
   rw [e1, e2] at h3
   exact absurd h3 hx
theorem ScrFine.ctl {s : ScrD} {b : Int} (h : ScrFine s) : ScrFine (ctlD s b) := by
 unfold ctlD
 repeat' (with_reducible refine fine_ite ?_ ?_)
 all_goals first | exact h.move | exact h.down | exact h
theorem put_wrap {s : ScrD} {g : GridD} {b : Bool} : putD (wrapD s b) g = wrapD (putD s g) b := by
 unfold putD wrapD; split <;> rfl
theorem shown_wrap {s : ScrD} {b : Bool} : shownD (wrapD s b) = shownD s := rfl
theorem keep_wrap {s : ScrD} {n : Int} {b : Bool} : keepD (wrapD s b) n = wrapD (keepD s n) b := by
 by_cases h : s.OnAlt = false ∧ s.Top = 0
 ·unfold keepD; rw [if_pos h, if_pos (show (wrapD s b).OnAlt = false ∧ (wrapD s b).Top = 0 from h)]; rfl
 ·unfold keepD; rw [if_neg h, if_neg (show ¬ ((wrapD s b).OnAlt = false ∧ (wrapD s b).Top = 0) from h)]
theorem rollUp_wrap {s : ScrD} {n : Int} {b : Bool} : rollUpD (wrapD s b) n = wrapD (rollUpD s n) b := by
 unfold rollUpD rollD
 rw [keep_wrap, put_wrap, shown_wrap]; rfl
def scrDownRes (s : ScrD) : ScrD := if scrOk s = true then downD s else scr0
def scrUpRes (s : ScrD) : ScrD := if scrOk s = true then upD s else scr0
theorem part_next {g : GridD} {f : Nat → CellD} {lo a j k : Nat} {xs : List CellD} {v : CellD} (hj : j = lo + a) (hl : j < xs.length) (hv : v = f (lo + a)) (hq : cat xs k = partF g f lo a k) : cat (xs.set j v) k = partF g f lo (a + 1) k := by
 subst hj
 rw [partF_one]
 show gat encCell (xs.set (lo + a) v) k = _
 rw [gat_set2 hl]
 split
 ·rename_i hk; subst hk; exact hv
 ·exact hq
theorem part_skip {g : GridD} {f : Nat → CellD} {a k : Nat} {xs : List CellD} (hf : f a = cat g.Cells a) (hq : cat xs k = partF g f 0 a k) : cat xs k = partF g f 0 (a + 1) k := by
 rw [partF_one, hq]
 split
 ·rename_i hk
  rw [Nat.zero_add] at hk
  subst hk
  unfold partF
  rw [if_neg (by omega)]; exact hf.symm
 ·rfl
theorem part_done {g : GridD} {f : Nat → CellD} {lo a : Nat} {w h : Int} {xs : List CellD} (hw : w = g.W) (hh : h = g.H) (hl : xs.length = g.Cells.length) (ho : ∀ k, k < g.Cells.length → ¬ (lo ≤ k ∧ k < lo + a) → f k = cat g.Cells k)
  (hp : ∀ k, k < g.Cells.length → cat xs k = partF g f lo a k) : (⟨w, h, xs⟩ : GridD) = gmap g f := by
 subst hw hh
 unfold gmap
 congr 1
 refine ext_gat (F := encCell) hl fun k hk => ?_
 have h1 := hp k hk
 unfold partF at h1
 by_cases h2 : lo ≤ k ∧ k < lo + a
 ·rw [if_pos h2] at h1; exact h1
 ·rw [if_neg h2] at h1; rw [ho k hk h2]; exact h1
theorem dm_eq {w k : Nat} : k = k / w * w + k % w := by
 have := Nat.div_add_mod k w
 rw [Nat.mul_comm] at this
 exact this.symm
theorem shiftF_at {g : GridD} {x y n : Int} {a : Nat} (h0 : 0 ≤ x) (h1 : 0 ≤ y) (h2 : x + a < g.W) : shiftF g x y n (y.toNat * g.W.toNat + x.toNat + a) = if x ≤ x + a - n ∧ x + a - n < g.W then cat g.Cells (y.toNat * g.W.toNat + (x + a - n).toNat) else blankC := by
 obtain ⟨e1, e2⟩ := at_div (w := g.W.toNat) (y := y.toNat) (x := x.toNat + a) (by omega)
 unfold shiftF
 rw [Nat.add_assoc, e1, e2, if_pos ⟨by omega, by omega⟩, show ((x.toNat + a : Nat) : Int) = x + a by omega]
theorem shiftF_out {g : GridD} {x y n : Int} {k : Nat} (hw : 0 < g.W.toNat) (h0 : 0 ≤ x) (h1 : 0 ≤ y) (hx : x < g.W) (h : ¬ (y.toNat * g.W.toNat + x.toNat ≤ k ∧ k < y.toNat * g.W.toNat + x.toNat + (g.W - x).toNat)) : shiftF g x y n k = cat g.Cells k := by
 unfold shiftF
 rw [if_neg]
 rintro ⟨h2, h3⟩
 apply h
 have h4 := dm_eq (w := g.W.toNat) (k := k)
 have h5 := Nat.mod_lt k hw
 have h6 : k / g.W.toNat = y.toNat := by omega
 rw [h6] at h4
 omega
theorem shift_big {g : GridD} {x y n m : Int} (h0 : 0 ≤ x) (hn : n = m ∨ (g.W ≤ n ∧ g.W ≤ m ∨ n ≤ -g.W ∧ m ≤ -g.W)) : gShift g x y n = gShift g x y m := by
 rcases hn with rfl | hn
 ·rfl
 ·unfold gShift
  congr 1
  funext k
  unfold shiftF
  split
  ·rename_i h
   have h5 : ((k % g.W.toNat : Nat) : Int) < g.W ∨ g.W ≤ 0 := by
    rcases Nat.eq_zero_or_pos g.W.toNat with h6 | h6
    ·omega
    ·have := Nat.mod_lt k h6; omega
   rw [if_neg (by omega), if_neg (by omega)]
  ·rfl
theorem shift_done {g : GridD} {x y n m w h : Int} {a : Nat} {xs : List CellD} (h0 : 0 ≤ x ∧ x < g.W) (h1 : 0 ≤ y) (ha : (a : Int) = g.W - x) (hw : w = g.W) (hh : h = g.H) (hl : xs.length = g.Cells.length) (hm : n = m ∨ (g.W ≤ n ∧ g.W ≤ m ∨ n ≤ -g.W ∧ m ≤ -g.W))
  (hp : ∀ k, k < g.Cells.length → cat xs k = partF g (shiftF g x y m) (y.toNat * g.W.toNat + x.toNat) a k) : (⟨w, h, xs⟩ : GridD) = gShift g x y n := by
 rw [shift_big h0.1 hm]
 exact part_done hw hh hl (fun k _ hk => shiftF_out (by omega) h0.1 h1 h0.2 (by rw [show (g.W - x).toNat = a by omega]; exact hk)) hp
theorem fill_clear {g : GridD} {x y n : Int} (h0 : 0 ≤ x ∧ x < g.W) (h1 : 0 ≤ y) : gFill g x y n 1 blankC = gmap g (clearF g (y * g.W + x) (min (y * g.W + x + n) ((y + 1) * g.W))) := by
 unfold gFill
 congr 1
 funext k
 unfold fillFn clearF
 have hw : 0 < g.W.toNat := by omega
 have h4 := dm_eq (w := g.W.toNat) (k := k)
 have h5 := Nat.mod_lt k hw
 generalize hq : k / g.W.toNat = q at h4 ⊢
 generalize hr : k % g.W.toNat = r at h4 h5 ⊢
 have e1 : (k : Int) = q * g.W + r := by
  rw [h4, Int.natCast_add, Int.natCast_mul, Int.toNat_of_nonneg (by omega)]
 have e2 : (y + 1) * g.W = y * g.W + g.W := by rw [Int.add_mul, Int.one_mul]
 have hiff : ((x ≤ (r : Int) ∧ (r : Int) < x + n) ∧ y ≤ (q : Int) ∧ (q : Int) < y + 1) ↔ y * g.W + x ≤ (k : Int) ∧ (k : Int) < min (y * g.W + x + n) ((y + 1) * g.W) := by
  constructor
  ·rintro ⟨h6, h7⟩
   have h8 : (q : Int) = y := by omega
   rw [e1, h8, e2]
   omega
  ·rintro ⟨h6, h7⟩
   have h8 : (q : Int) = y := by
    rcases Int.lt_or_le (q : Int) y with h9 | h9
    ·have := Int.mul_le_mul_of_nonneg_right (show (q : Int) + 1 ≤ y by omega) (show 0 ≤ g.W by omega)
     rw [Int.add_mul, Int.one_mul] at this
     omega
    ·rcases Int.lt_or_le y (q : Int) with h10 | h10
     ·have := Int.mul_le_mul_of_nonneg_right (show y + 1 ≤ (q : Int) by omega) (show 0 ≤ g.W by omega)
      rw [e2] at this
      omega
     ·omega
   rw [e1, h8, e2] at h7
   rw [e1, h8] at h6
   omega
 by_cases h : y * g.W + x ≤ (k : Int) ∧ (k : Int) < min (y * g.W + x + n) ((y + 1) * g.W)
 ·rw [if_pos h, if_pos (hiff.2 h)]
 ·rw [if_neg h, if_neg (fun h9 => h (hiff.1 h9))]
theorem clearF_out {g : GridD} {a b : Int} {k : Nat} (h : ¬ (a ≤ (k : Int) ∧ (k : Int) < b)) : clearF g a b k = cat g.Cells k := by unfold clearF; rw [if_neg h]
theorem clearF_in {g : GridD} {a b : Int} {k : Nat} (h : a ≤ (k : Int) ∧ (k : Int) < b) : clearF g a b k = blankC := by unfold clearF; rw [if_pos h]
theorem countP_lowb {l : List Int} {t : Int} : l.countP (fun x => decide (x < t)) = lowb l t := List.countP_eq_length_filter
theorem asc_le {l : List Int} {lo hi : Int} (h : isAsc l lo hi = true) : l.Pairwise (· ≤ ·) := (asc_pair.1 h).1.imp (fun h => Int.le_of_lt h)
theorem int_not {l : List Int} {x : Int} (h : ∀ j, j < l.length → iat l j ≠ x) : ¬ x ∈ l := by
 intro hx
 obtain ⟨j, hj, rfl⟩ := List.mem_iff_getElem.1 hx
 exact h j hj (gat_lt (F := encI) hj)
def tabTo (s : ScrD) (i : Nat) : List Int := ((List.range i).map (fun i : Nat => (i : Int))).filter (fun x => decide (x = s.X) || s.Tabs.contains x)
theorem tabTo_in {s : ScrD} {i : Nat} (h : (i : Int) = s.X ∨ s.Tabs.contains (i : Int) = true) : tabTo s (i + 1) = tabTo s i ++ [(i : Int)] := by
 unfold tabTo
 rw [List.range_succ, List.map_append, List.filter_append]
 congr 1
 show List.filter _ [(i : Int)] = _
 rw [List.filter_cons, if_pos (by rw [Bool.or_eq_true, decide_eq_true_eq]; exact h)]
 rfl
theorem tabTo_out {s : ScrD} {i : Nat} (h : ¬ ((i : Int) = s.X ∨ s.Tabs.contains (i : Int) = true)) : tabTo s (i + 1) = tabTo s i := by
 unfold tabTo
 rw [List.range_succ, List.map_append, List.filter_append]
 show _ ++ List.filter _ [(i : Int)] = _
 rw [List.filter_cons, if_neg (by rw [Bool.or_eq_true, decide_eq_true_eq]; exact h)]
 exact List.append_nil _
theorem tabTo_le {s : ScrD} {i : Nat} : (tabTo s i).length ≤ i := by
 refine Nat.le_trans (List.length_filter_le _ _) ?_
 rw [List.length_map, List.length_range]; exact Nat.le_refl _
def isMove (b : Int) : Bool := decide (b = 65 ∨ b = 66 ∨ b = 67 ∨ b = 68 ∨ b = 71 ∨ b = 100 ∨ b = 72 ∨ b = 102)
def moveByD (s : ScrD) (n m b : Int) : ScrD :=
 if b = 65 then moveD s s.X (s.Y - n) else if b = 66 then moveD s s.X (s.Y + n) else if b = 67 then moveD s (s.X + n) s.Y else if b = 68 then moveD s (s.X - n) s.Y
 else if b = 71 then moveD s (n - 1) s.Y else if b = 100 then moveD s s.X (n - 1) else if b = 72 ∨ b = 102 then moveD s (m - 1) (n - 1) else s
theorem csiD_move {s : ScrD} {l : List Int} {b : Int} (h : isMove b = true) : csiD s l b = moveByD s (argI l 0 1) (argI l 1 1) b := by
 unfold isMove at h
 rw [decide_eq_true_eq] at h
 rcases h with rfl | rfl | rfl | rfl | rfl | rfl | rfl | rfl <;> rfl
theorem findI_bnd {p : Int → Bool} {s : List Int} (h : ¬ findI p s = -1) : 0 ≤ findI p s ∧ findI p s < s.length := by
 rcases findI_cases (p := p) (xs := s) with ⟨h1, _⟩ | ⟨i, hi, h1, _⟩
 ·exact absurd h1 h
 ·rw [h1]; omega
structure DelTo (p : Int → Bool) (s : List Int) (j m : Nat) (zs : List Int) : Prop where
 len : zs.length = s.length
 pre : zs.take m = (s.take j).filter (fun x => !p x)
 rest : ∀ k, j ≤ k → k < s.length → iat zs k = iat s k
theorem delTo_start {p : Int → Bool} {s : List Int} (h : ¬ findI p s = -1) : DelTo p s ((findI p s).toNat + 1) (findI p s).toNat s := by
 rcases findI_cases (p := p) (xs := s) with ⟨h1, _⟩ | ⟨i, hi, h1, h2, h3⟩
 ·exact absurd h1 h
 ·rw [h1, Int.toNat_natCast]
  refine ⟨rfl, ?_, fun _ _ _ => rfl⟩
  rw [List.take_add_one, List.getElem?_eq_getElem hi, List.filter_append]
  have e1 : (s.take i).filter (fun x => !p x) = s.take i := by
   rw [List.filter_eq_self]
   intro x hx
   obtain ⟨k, hk, rfl⟩ := List.mem_iff_getElem.1 hx
   rw [List.length_take] at hk
   rw [List.getElem_take, h3 k (by omega)]; rfl
  rw [e1]
  show _ = s.take i ++ List.filter _ [s[i]]
  rw [List.filter_cons, if_neg (by rw [h2]; decide)]
  exact (List.append_nil _).symm
theorem DelTo.keep {p : Int → Bool} {s zs : List Int} {j m : Nat} (h : DelTo p s j m zs) (hj : j < s.length) (hm : m < j) (hp : p (iat zs j) = false) : DelTo p s (j + 1) (m + 1) (zs.set m (iat zs j)) := by
 have hl := h.len
 refine ⟨by rw [List.length_set]; exact hl, ?_, fun k h1 h2 => ?_⟩
 ·rw [List.take_add_one, List.take_set_of_le (Nat.le_refl _), List.getElem?_set_self (by omega), h.pre, List.take_add_one (l := s), gat_get (F := encI) hj, List.filter_append]
  congr 1
  show _ = List.filter _ [iat s j]
  rw [← h.rest j (Nat.le_refl _) hj, List.filter_cons, if_pos (by rw [hp]; decide)]
  rfl
 ·show gat encI (zs.set m _) k = _
  rw [gat_set2 (by omega), if_neg (by omega)]
  exact h.rest k (by omega) h2
theorem DelTo.skip {p : Int → Bool} {s zs : List Int} {j m : Nat} (h : DelTo p s j m zs) (hj : j < s.length) (hp : p (iat zs j) = true) : DelTo p s (j + 1) m zs := by
 refine ⟨h.len, ?_, fun k h1 h2 => h.rest k (by omega) h2⟩
 rw [h.pre, List.take_add_one (l := s), gat_get (F := encI) hj, List.filter_append]
 show _ = _ ++ List.filter _ [iat s j]
 rw [← h.rest j (Nat.le_refl _) hj, List.filter_cons, if_neg (by rw [hp]; decide)]
 exact (List.append_nil _).symm
theorem DelTo.all {p : Int → Bool} {s zs : List Int} {j m : Nat} (h : DelTo p s j m zs) (hj : s.length ≤ j) : zs.take m = s.filter (fun x => !p x) := by
 rw [h.pre, List.take_of_length_le hj]
theorem del_none {p : Int → Bool} {s : List Int} (h : findI p s = -1) : s.filter (fun x => !p x) = s := by
 rcases findI_cases (p := p) (xs := s) with ⟨_, h1⟩ | ⟨i, hi, h1, _⟩
 ·rw [List.filter_eq_self]; intro x hx; rw [h1 x hx]; rfl
 ·rw [h1] at h; omega
theorem tabsD_0 {s : ScrD} : tabsD s 0 = { s with Tabs := s.Tabs.filter fun x => !decide (x = s.X) } := by
 unfold tabsD
 congr 1
 exact List.filter_congr (fun x _ => by simp)
theorem tabsD_3 {s : ScrD} : tabsD s 3 = { s with Tabs := [] } := by
 unfold tabsD
 congr 1
 rw [List.filter_eq_nil_iff]
 intro x _; simp
theorem tabsD_o {s : ScrD} {k : Int} (h0 : ¬ k = 0) (h3 : ¬ k = 3) : tabsD s k = s := by
 unfold tabsD
 rw [show s.Tabs.filter _ = s.Tabs from List.filter_eq_self.2 (fun x _ => by simp [h0, h3])]
theorem moveByD_no {s : ScrD} {n m b : Int} (h : isMove b = false) : moveByD s n m b = s := by
 unfold isMove at h
 rw [decide_eq_false_iff_not] at h
 unfold moveByD
 rw [if_neg (by omega), if_neg (by omega), if_neg (by omega), if_neg (by omega), if_neg (by omega), if_neg (by omega), if_neg (by omega)]
theorem isMove_no {b : Int} (h : isMove b = false) : ¬ b = 65 ∧ ¬ b = 66 ∧ ¬ b = 67 ∧ ¬ b = 68 ∧ ¬ b = 71 ∧ ¬ b = 100 ∧ ¬ (b = 72 ∨ b = 102) := by
 unfold isMove at h
 rw [decide_eq_false_iff_not] at h
 omega
theorem fine_smB {s : ScrD} {B : Nat} (h : ScrFine s) (hB : 20220 ≤ B) : smScr B s := totScr_sm (Nat.le_trans (scr_tot h.ok) hB)
theorem clamp_eq {x h : Int} (h0 : 0 ≤ h) : clampI x h = if x < 0 then 0 else min x h := by unfold clampI; split <;> omega
theorem ScrFine.reg2 {s : ScrD} {l : List Int} (h : ScrFine s) (hl : areArgs l = true) (hr : argI l 0 1 - 1 < argI l 1 s.H - 1 ∧ argI l 1 s.H - 1 < s.H) : ScrFine { s with Top := argI l 0 1 - 1, Bot := argI l 1 s.H - 1 } := by
 have b := gridOk_bnd h.gM
 obtain ⟨d1, d2, _⟩ := h.dim
 have h1 := argI_pos (k := 0) hl (d := 1) (by omega)
 exact ⟨h.gM, h.gA, h.dim, h.pos, h.sav, h.wrp, h.aA, h.aS, ⟨by constructor <;> (simp only; omega), hr.2, fun he => by simp only at he; omega⟩, h.lim, h.tab, h.row⟩
theorem filt_in {p : Int → Bool} {l : List Int} {i : Nat} (h : i < l.length) (hp : p (iat l i) = true) : (l.take (i + 1)).filter p = (l.take i).filter p ++ [iat l i] := by
 rw [List.take_add_one, gat_get (F := encI) h, List.filter_append]
 congr 1
 show List.filter p [iat l i] = _
 rw [List.filter_cons, if_pos hp]; rfl
theorem filt_out {p : Int → Bool} {l : List Int} {i : Nat} (h : i < l.length) (hp : ¬ p (iat l i) = true) : (l.take (i + 1)).filter p = (l.take i).filter p := by
 rw [List.take_add_one, gat_get (F := encI) h, List.filter_append]
 show _ ++ List.filter p [iat l i] = _
 rw [List.filter_cons, if_neg hp]
 exact List.append_nil _
def tabP (s : ScrD) (k : Int) (x : Int) : Bool := (decide (k = 0) && !decide (x = s.X)) || (!decide (k = 0) && !decide (k = 3))
theorem tabsD_P {s : ScrD} {k : Int} : tabsD s k = { s with Tabs := s.Tabs.filter (tabP s k) } := rfl
theorem tabP_iff {s : ScrD} {k x : Int} : tabP s k x = true ↔ (k = 0 ∧ ¬ x = s.X) ∨ (¬ k = 0 ∧ ¬ k = 3) := by
 unfold tabP
 simp only [Bool.or_eq_true, Bool.and_eq_true, decide_eq_true_eq, Bool.not_eq_true', decide_eq_false_iff_not]
def modeTo (s : ScrD) (l : List Int) (b : Int) (i : Nat) : ScrD := if b = 104 ∨ b = 108 then modesD s (l.take i) (decide (b = 104)) else s
theorem modeTo_zero {s : ScrD} {l : List Int} {b : Int} : modeTo s l b 0 = s := by unfold modeTo; split <;> rfl
theorem modeTo_next {s : ScrD} {l : List Int} {b : Int} {i : Nat} (hb : b = 104 ∨ b = 108) (h : i < l.length) : modeTo s l b (i + 1) = modeD (modeTo s l b i) (iat l i) (decide (b = 104)) := by
 unfold modeTo; rw [if_pos hb, if_pos hb]; exact modesD_take h
theorem modeTo_same {s : ScrD} {l : List Int} {b : Int} {i : Nat} (hb : ¬ (b = 104 ∨ b = 108)) : modeTo s l b (i + 1) = modeTo s l b i := by
 unfold modeTo; rw [if_neg hb, if_neg hb]
theorem ScrFine.modeT {s : ScrD} {l : List Int} {b : Int} {i : Nat} (h : ScrFine s) : ScrFine (modeTo s l b i) := by
 show ScrFine (if _ then _ else _)
 split
 ·exact h.modes
 ·exact h
theorem modeTo_all {s : ScrD} {l : List Int} {b : Int} {i : Nat} (hi : l.length ≤ i) : modeTo s l b i = seqD s true l b := by
 unfold modeTo seqD
 rw [List.take_of_length_le hi, if_neg (show ¬ true = false by decide)]; rfl
theorem scrGo_eq {s : ScrD} {x y : Int} (h : ScrFine s) : scrGoRes s x y = moveD s x y := by unfold scrGoRes; rw [if_pos h.ok]
theorem gridRes_eq {w h : Int} (hs : isSize w h = true) : gridRes w h = gridNew w h := by unfold gridRes; rw [hs]; rfl
theorem csi_not {s : ScrD} {mark : Bool} {l : List Int} {b : Int} (h : ¬ (scrOk s = true ∧ areArgs l = true)) : scrCsiRes s mark l b = scr0 := by
 unfold scrCsiRes csiOk
 rw [if_neg]
 rw [Bool.and_eq_true]
 exact fun h9 => h ⟨h9.2, h9.1⟩
theorem csi_yes {s : ScrD} {mark : Bool} {l : List Int} {b : Int} (h : scrOk s = true) (hl : areArgs l = true) : scrCsiRes s mark l b = seqD s mark l b := by
 unfold scrCsiRes csiOk
 rw [if_pos (by rw [Bool.and_eq_true]; exact ⟨hl, h⟩)]
theorem fill_one {g : GridD} {x y w h : Int} {c : CellD} {j : Nat} (hw : w = g.W) (hh : h = g.H) (h0 : 0 ≤ x ∧ x < g.W) (h1 : 0 ≤ y) (hj : j = (y * g.W).toNat + x.toNat) (hl : j < g.Cells.length) : (⟨w, h, g.Cells.set j c⟩ : GridD) = gFill g x y 1 1 c := by
 have e0 : (y * g.W).toNat = y.toNat * g.W.toNat := Int.toNat_mul h1 (by omega)
 obtain ⟨d1, d2⟩ := at_div (w := g.W.toNat) (y := y.toNat) (x := x.toNat) (by omega)
 refine part_done (lo := j) (a := 1) hw hh (List.length_set) (fun k hk hn => ?_) (fun k hk => ?_)
 ·unfold fillFn
  rw [if_neg]
  rintro ⟨h2, h3⟩
  apply hn
  have h4 := dm_eq (w := g.W.toNat) (k := k)
  have h6 : k / g.W.toNat = y.toNat := by omega
  rw [h6] at h4
  omega
 ·show gat encCell (g.Cells.set j c) k = _
  rw [gat_set2 hl]
  unfold partF
  by_cases hk2 : k = j
  ·rw [if_pos hk2, if_pos (by omega)]
   unfold fillFn
   rw [hk2, hj, e0, d1, d2, if_pos (by omega)]
  ·rw [if_neg hk2, if_neg (by omega)]
def nxt (l : List Int) (x d : Int) : Int := (l.find? fun n => decide (x < n)).getD d
theorem nxt_drop {l : List Int} {x d : Int} {i : Nat} (h : i < l.length) : nxt (l.drop i) x d = if x < iat l i then iat l i else nxt (l.drop (i + 1)) x d := by
 unfold nxt
 rw [List.drop_eq_getElem_cons h, List.find?_cons, show iat l i = l[i] from gat_lt h]
 by_cases hx : x < l[i]
 ·rw [decide_eq_true hx, if_pos hx]; rfl
 ·rw [decide_eq_false hx, if_neg hx]
theorem nxt_end {l : List Int} {x d : Int} : nxt (l.drop l.length) x d = d := by rw [List.drop_length]; rfl
theorem nextTab_nxt {s : ScrD} : nextTab s = nxt s.Tabs s.X (s.W - 1) := by
 unfold nextTab nxt
 rcases findI_cases (p := fun n => decide (s.X < n)) (xs := s.Tabs) with ⟨e, h⟩ | ⟨i, hi, e, h1, h2⟩
 ·rw [e, if_neg (by omega), List.find?_eq_none.2 (fun x hx => by rw [h x hx]; exact Bool.false_ne_true)]; rfl
 ·have hf : (s.Tabs.find? fun n => decide (s.X < n)) = some s.Tabs[i] := List.find?_eq_some_iff_getElem.2 ⟨h1, i, hi, rfl, fun j hj => by have h3 := h2 j hj; simpa using h3⟩
  rw [e, if_pos (by omega), show ((i : Int)).toNat = i by omega, show iat s.Tabs i = s.Tabs[i] from gat_lt hi, hf]; rfl
theorem runeD_lt {s s1 : ScrD} {r : Int} (h1 : s1 = if s.Wrap = true then { downD s with X := 0 } else s) (hx : s1.X ≠ s1.W - 1) : runeD s r = { putD s1 (gFill (shownD s1) s1.X s1.Y 1 1 ⟨r, s1.A⟩) with X := s1.X + 1 } := by
 subst h1; exact if_neg hx
theorem runeD_eq {s s1 : ScrD} {r : Int} (h1 : s1 = if s.Wrap = true then { downD s with X := 0 } else s) (hx : s1.X = s1.W - 1) : runeD s r = wrapD (putD s1 (gFill (shownD s1) s1.X s1.Y 1 1 ⟨r, s1.A⟩)) (!s1.NoWrap) := by
 subst h1; exact if_pos hx
def scrActRes (s : ScrD) (a : ActD) : ScrD := if a.Kind = 1 then scrRuneRes s a.R else if a.Kind = 2 then scrCtlRes s a.R else if a.Kind = 3 then scrEscRes s a.R else if a.Kind = 4 then scrCsiRes s a.Mark a.Args a.R else scrCopyRes s
theorem vpCsi_args {v : VpD} {b : Int} (h : areArgs v.Args = true) : areArgs (vpCsi v b).2.Args = true := by
 unfold vpCsi
 (repeat' split)
 all_goals first | rfl | exact h
theorem vpPlain_args {p : List UInt8} {b : Int} : areArgs (vpPlain p b).2.Args = true := by
 unfold vpPlain
 (repeat' split)
 all_goals rfl
theorem vpStep_args {v : VpD} {b : Int} (h : vpOk v = true) : areArgs (vpStep v b).2.Args = true := by
 unfold vpStep
 (repeat' split)
 all_goals first
  | rfl
  | exact vpPlain_args
  | (rename_i hs _; rw [vpOk_csi (.inl hs), Bool.and_eq_true] at h; exact vpCsi_args h.1)
  | (rename_i hs; rw [vpOk_csi (.inl hs), Bool.and_eq_true] at h; exact vpCsi_args h.1)
theorem vpParse_args : ∀ {l : List UInt8} {v : VpD}, vpOk v = true → ∀ a, a ∈ (vpParse v l).2 → areArgs a.Args = true
 | [], v, _, a, ha => by cases ha
 | y :: r, v, h, a, ha => by
  simp only [vpParse, List.mem_append] at ha
  rcases ha with ha | ha
  ·split at ha
   ·cases ha
   ·rw [List.mem_singleton] at ha; rw [ha]; exact vpStep_args h
  ·exact vpParse_args (vpStep_ok h) a ha
def doAct (s : ScrD) (a : ActD) : ScrD := if a.Kind = 1 then (if shows a.R = true then runeD s a.R else s) else if a.Kind = 2 then ctlD s a.R else if a.Kind = 3 then escD s a.R else if a.Kind = 4 then seqD s a.Mark a.Args a.R else s
theorem ScrFine.act {s : ScrD} {a : ActD} (h : ScrFine s) (ha : areArgs a.Args = true) : ScrFine (doAct s a) := by
 unfold doAct
 refine fine_ite ?_ (fine_ite h.ctl (fine_ite h.esc (fine_ite (h.seq ha) h)))
 split
 ·rename_i hr; exact h.rune hr
 ·exact h
theorem act_res {s : ScrD} {a : ActD} (h : ScrFine s) (ha : areArgs a.Args = true) : scrActRes s a = doAct s a := by
 have hk := h.ok
 unfold scrActRes doAct scrRuneRes scrCtlRes scrEscRes scrCopyRes
 rw [if_pos hk, if_pos hk, if_pos hk, if_pos hk, show scrCsiRes s a.Mark a.Args a.R = seqD s a.Mark a.Args a.R from by unfold scrCsiRes csiOk; rw [ha, hk]; rfl]
def actsD (s : ScrD) (l : List ActD) : ScrD := l.foldl doAct s
theorem ScrFine.acts : ∀ {l : List ActD} {s : ScrD}, ScrFine s → (∀ a, a ∈ l → areArgs a.Args = true) → ScrFine (actsD s l)
 | [], _, h, _ => h
 | a :: r, s, h, ha => ScrFine.acts (l := r) (h.act (ha a List.mem_cons_self)) (fun b hb => ha b (List.mem_cons_of_mem _ hb))
theorem actsD_next {s : ScrD} {l : List ActR} {i : Nat} (h : i < l.length) : actsD s ((l.take (i + 1)).map ActR.dat) = doAct (actsD s ((l.take i).map ActR.dat)) (gat encActR l i).dat := by
 unfold actsD
 rw [List.take_add_one, gat_get (F := encActR) h, List.map_append, List.foldl_append]; rfl
theorem acts_take {l : List ActR} {m : List ActD} {i : Nat} (hm : l.map ActR.dat = m) (ha : ∀ a, a ∈ m → areArgs a.Args = true) : ∀ a, a ∈ (l.take i).map ActR.dat → areArgs a.Args = true := fun a h => by
 obtain ⟨x, hx, rfl⟩ := List.mem_map.1 h
 exact ha _ (hm ▸ List.mem_map_of_mem (List.mem_of_mem_take hx))
theorem acts_gat {l : List ActR} {m : List ActD} {i : Nat} (hm : l.map ActR.dat = m) (ha : ∀ a, a ∈ m → areArgs a.Args = true) (hi : i < l.length) : areArgs (gat encActR l i).dat.Args = true := ha _ (hm ▸ List.mem_map_of_mem (gat_mem hi))
def term0 : TermD := ⟨vp0, scr0⟩
def termFeedRes (t : TermD) (b : List UInt8) : TermD := if termOk t = true then ⟨(vpParse t.P b).1, actsD t.S (vpParse t.P b).2⟩ else term0
theorem ub_self {a : UInt8} : ub (a.toNat : Int) = a := by apply u8_inj; rw [ub_toNat]; have := UInt8.toNat_lt a; omega
theorem rtry_hi {a : UInt8} {l : List UInt8} (h : 127 ≤ a.toNat) : rtry (a :: l) 1 = false := by
 rw [← Bool.not_eq_true, rtry1]; omega
theorem vpPlain_beg {p : List UInt8} {b : UInt8} (hb : 128 ≤ b.toNat) (hr : ¬ rvS (runeL (p ++ [b])) = (p ++ [b]).length) (hg : runeBeg (p ++ [b]) = true) : vpPlain p b.toNat = (⟨0, false, [], p ++ [b]⟩, act0) := by
 unfold vpPlain
 rw [ub_self, if_neg (by omega), if_neg (by omega), if_neg hr, if_pos hg]
theorem vpPlain_end {p : List UInt8} {b : UInt8} {q : Int} (hb : 128 ≤ b.toNat) (hr : runeL (p ++ [b]) = some (q, (p ++ [b]).length)) : vpPlain p b.toNat = (vp0, ⟨1, q, false, []⟩) := by
 unfold vpPlain
 rw [ub_self, if_neg (by omega), if_neg (by omega), hr]
 exact if_pos rfl
theorem vpStep_plain {p : List UInt8} {b : UInt8} (hb : 32 ≤ b.toNat) : vpStep ⟨0, false, [], p⟩ b.toNat = vpPlain p b.toNat := by
 unfold vpStep
 rw [if_neg (by omega), if_neg (by omega), if_pos rfl]
theorem runeL_one {a : UInt8} (h : 127 ≤ a.toNat) : ¬ rvS (runeL [a]) = 1 := by
 rw [runeL_none]
 ·exact fun h => by cases h
 ·intro t h1 h3
  rcases (by omega : t = 1 ∨ t = 2 ∨ t = 3) with rfl | rfl | rfl
  ·exact rtry_hi h
  ·exact rtry_len (by simp)
  ·exact rtry_len (by simp)
theorem vpParse_rune {q : Int} (h : shows q = true) : vpParse vp0 (runeB q) = (vp0, [⟨1, q, false, []⟩]) := by
 have hs := shows_iff.1 h
 unfold runeB
 rw [if_neg (by rw [h]; decide)]
 by_cases h1 : q < 128
 ·rw [if_pos h1]
  have e : ((ub q).toNat : Int) = q := by rw [ub_toNat]; omega
  have s1 : vpStep vp0 (ub q).toNat = (vp0, ⟨1, q, false, []⟩) := by
   rw [vpStep_plain (by omega), e]
   unfold vpPlain
   rw [if_neg (by omega), if_pos (by omega)]
  show ((vpParse (vpStep vp0 (ub q).toNat).1 []).1, (if (vpStep vp0 (ub q).toNat).2.Kind = 0 then [] else [(vpStep vp0 (ub q).toNat).2]) ++ (vpParse (vpStep vp0 (ub q).toNat).1 []).2) = _
  rw [s1]; rfl
 ·rw [if_neg h1]
  by_cases h2 : q < 2048
  ·rw [if_pos h2]
   have ea : ((ub (192 + q / 64)).toNat : Int) = 192 + q / 64 := by rw [ub_toNat]; omega
   have eb : ((ub (128 + q % 64)).toNat : Int) = 128 + q % 64 := by rw [ub_toNat]; omega
   have hq : runeB q = [ub (192 + q / 64), ub (128 + q % 64)] := by unfold runeB; rw [if_neg (by rw [h]; decide), if_neg h1, if_pos h2]
   generalize ub (192 + q / 64) = a at *
   generalize ub (128 + q % 64) = b at *
   have s1 : vpStep vp0 a.toNat = (⟨0, false, [], [a]⟩, act0) := by
    rw [vpStep_plain (by omega)]
    exact vpPlain_beg (p := []) (by omega) (runeL_one (by omega)) (within_iff.2 (by omega))
   have hc : cand [a, b] 2 = q := by show ((a.toNat : Int) - 192) * 64 + b.toNat - 128 = q; omega
   have hr : runeL [a, b] = some (q, 2) := by
    have := runeL_at (l := [a, b]) (s := 2) (by unfold rtry; rw [hc, hq]; simp) (by omega) (by omega) (fun t h1 h2 => by rw [show t = 1 by omega]; exact rtry_hi (by omega))
    rw [this, hc]
   have s2 : vpStep ⟨0, false, [], [a]⟩ b.toNat = (vp0, ⟨1, q, false, []⟩) := by
    rw [vpStep_plain (by omega)]
    exact vpPlain_end (p := [a]) (by omega) hr
   simp only [vpParse, s1, s2]
   rfl
  ·rw [if_neg h2]
   have ea : ((ub (224 + q / 4096)).toNat : Int) = 224 + q / 4096 := by rw [ub_toNat]; omega
   have eb : ((ub (128 + q / 64 % 64)).toNat : Int) = 128 + q / 64 % 64 := by rw [ub_toNat]; omega
   have ec : ((ub (128 + q % 64)).toNat : Int) = 128 + q % 64 := by rw [ub_toNat]; omega
   have hq : runeB q = [ub (224 + q / 4096), ub (128 + q / 64 % 64), ub (128 + q % 64)] := by unfold runeB; rw [if_neg (by rw [h]; decide), if_neg h1, if_neg h2]
   generalize ub (224 + q / 4096) = a at *
   generalize ub (128 + q / 64 % 64) = b at *
   generalize ub (128 + q % 64) = c at *
   have s1 : vpStep vp0 a.toNat = (⟨0, false, [], [a]⟩, act0) := by
    rw [vpStep_plain (by omega)]
    exact vpPlain_beg (p := []) (by omega) (runeL_one (by omega)) (within_iff.2 (by omega))
   have no2 : ∀ l, rtry (a :: b :: l) 2 = false := by
    intro l
    rw [← Bool.not_eq_true]
    intro hh
    unfold rtry at hh
    rw [Bool.and_eq_true, decide_eq_true_eq, decide_eq_true_eq] at hh
    have hl := congrArg List.length hh.2
    have hc : cand (a :: b :: l) 2 = ((a.toNat : Int) - 192) * 64 + b.toNat - 128 := rfl
    have h9 : 2048 ≤ cand (a :: b :: l) 2 := by rw [hc]; omega
    generalize cand (a :: b :: l) 2 = z at *
    unfold runeB at hl
    rw [if_neg (show ¬ z < 128 by omega), if_neg (show ¬ z < 2048 by omega)] at hl
    split at hl <;> simp at hl
   have r2 : ¬ rvS (runeL [a, b]) = 2 := by
    rw [runeL_none]
    ·exact fun h => by cases h
    ·intro t h1 h3
     rcases (by omega : t = 1 ∨ t = 2 ∨ t = 3) with rfl | rfl | rfl
     ·exact rtry_hi (by omega)
     ·exact no2 []
     ·exact rtry_len (by simp)
   have g2 : runeBeg [a, b] = true := by
    show (((decide (b.toNat / 64 = 2) && decide (224 ≤ a.toNat)) && decide (2048 ≤ ((a.toNat : Int) - 224) * 4096 + (b.toNat % 64 : Nat) * 64)) && shows (((a.toNat : Int) - 224) * 4096 + (b.toNat % 64 : Nat) * 64)) = true
    rw [Bool.and_eq_true, Bool.and_eq_true, Bool.and_eq_true, decide_eq_true_eq, decide_eq_true_eq, decide_eq_true_eq, shows_iff]
    omega
   have s2 : vpStep ⟨0, false, [], [a]⟩ b.toNat = (⟨0, false, [], [a, b]⟩, act0) := by
    rw [vpStep_plain (by omega)]
    exact vpPlain_beg (p := [a]) (by omega) r2 g2
   have hc : cand [a, b, c] 3 = q := by show (((a.toNat : Int) - 224) * 64 + b.toNat - 128) * 64 + c.toNat - 128 = q; omega
   have hr : runeL [a, b, c] = some (q, 3) := by
    have := runeL_at (l := [a, b, c]) (s := 3) (by unfold rtry; rw [hc, hq]; simp) (by omega) (by omega) (fun t h1 h2 => by
     rcases (by omega : t = 1 ∨ t = 2) with rfl | rfl
     ·exact rtry_hi (by omega)
     ·exact no2 [c])
    rw [this, hc]
   have s3 : vpStep ⟨0, false, [], [a, b]⟩ c.toNat = (vp0, ⟨1, q, false, []⟩) := by
    rw [vpStep_plain (by omega)]
    exact vpPlain_end (p := [a, b]) (by omega) hr
   simp only [vpParse, s1, s2, s3]
   rfl
def numT (n : Int) : List UInt8 := if 0 ≤ n ∧ n ≤ 4294967295 then Go.Lib.decDigits n.toNat else []
def numBA (n : Int) : ByteArray := ⟨(numT n).toArray⟩
def argT (l : List Int) : List UInt8 := Go.Lib.join (l.map numT) [59]
theorem numT_small {n : Int} (h : 0 ≤ n ∧ n < 10) : numT n = [ub (48 + n)] := by
 unfold numT
 rw [if_pos (by omega), Go.Lib.decDigits_one (by omega)]
 congr 1
 apply u8_inj
 rw [ub_toNat, UInt8.toNat_ofNat']
 omega
theorem dec_chars (u : Nat) : ∀ c, c ∈ Go.Lib.decDigits u → 48 ≤ c.toNat ∧ c.toNat ≤ 57 := by
 induction u using Nat.strongRecOn with
 | _ u ih =>
  intro c hc
  rw [Go.Lib.decDigits] at hc
  split at hc
  ·rw [List.mem_singleton] at hc
   rw [hc, UInt8.toNat_ofNat']; omega
  ·rw [List.mem_append, List.mem_singleton] at hc
   rcases hc with hc | hc
   ·exact ih _ (by omega) c hc
   ·rw [hc, UInt8.toNat_ofNat']; omega
theorem numT_len {n : Int} : (numT n).length ≤ 21 := by
 unfold numT
 split
 ·have h := Go.Lib.itoa_length_le (n.toNat : Int) (by omega) (by omega)
  rwa [Go.Lib.itoa_nonneg] at h
 ·exact Nat.zero_le _
theorem join_snoc (xs : List (List UInt8)) (y s : List UInt8) : Go.Lib.join (xs ++ [y]) s = if xs = [] then y else Go.Lib.join xs s ++ s ++ y := by
 cases xs with
 | nil => rw [if_pos rfl]; exact Go.Lib.join_one y s
 | cons x r =>
  rw [if_neg (by simp), List.cons_append, Go.Lib.join_cons, Go.Lib.join_cons]
  simp [Go.Lib.joinTail, List.append_assoc]
theorem argT_take {l : List Int} {i : Nat} (h : i < l.length) : argT (l.take (i + 1)) = if i = 0 then numT (iat l i) else argT (l.take i) ++ [59] ++ numT (iat l i) := by
 unfold argT
 rw [List.take_add_one, gat_get (F := encI) h, List.map_append]
 show Go.Lib.join (_ ++ [numT (gat encI l i)]) _ = _
 rw [join_snoc]
 by_cases h0 : i = 0
 ·subst h0
  rw [if_pos rfl, if_pos (by simp)]
 ·rw [if_neg h0, if_neg (by intro hh; have := congrArg List.length hh; simp only [List.length_map, List.length_take, List.length_nil] at this; omega)]
def sameA (a b : ActD) : Bool := ((decide (a.Kind = b.Kind) && decide (a.R = b.R)) && decide (a.Mark = b.Mark)) && decide (a.Args = b.Args)
theorem sameA_eq {a b : ActD} (h : sameA a b = true) : a = b := by
 unfold sameA at h
 simp only [Bool.and_eq_true, decide_eq_true_eq] at h
 exact ActD.ext' h.1.1.1 h.1.1.2 h.1.2 h.2
def oneA (l : List ActD) (a : ActD) : Bool := match l with
 | [x] => sameA x a
 | _ => false
theorem oneA_eq {l : List ActD} {a : ActD} (h : oneA l a = true) : l = [a] := by
 unfold oneA at h
 split at h
 ·rw [sameA_eq h]
 ·cases h
def actPre (a : ActD) : List UInt8 := [27, 91] ++ (if a.Mark = true then [63] else []) ++ argT a.Args
def actBy (a : ActD) : List UInt8 := if a.Kind = 1 then runeB a.R else if a.Kind = 2 then [ub a.R] else if a.Kind = 3 then [27, ub a.R] else if a.Kind = 4 then actPre a ++ [ub a.R] else []
def actOk (a : ActD) : Bool := oneA (vpParse vp0 (actBy a)).2 a
theorem join_len : ∀ {xs : List (List UInt8)}, (∀ x, x ∈ xs → x.length ≤ 21) → (Go.Lib.join xs [59]).length ≤ 22 * xs.length
 | [], _ => Nat.zero_le _
 | x :: r, h => by
  rw [Go.Lib.join_cons, List.length_append, List.length_cons]
  have h1 := h x List.mem_cons_self
  have h2 : ∀ (l : List (List UInt8)), (∀ y, y ∈ l → y.length ≤ 21) → (Go.Lib.joinTail [59] l).length ≤ 22 * l.length := by
   intro l
   induction l with
   | nil => intro _; exact Nat.zero_le _
   | cons y t ih =>
    intro hl
    have h3 := ih fun z hz => hl z (List.mem_cons_of_mem _ hz)
    have h4 := hl y List.mem_cons_self
    have e : Go.Lib.joinTail [59] (y :: t) = ([59] ++ y) ++ Go.Lib.joinTail [59] t := by simp [Go.Lib.joinTail]
    rw [e]
    simp only [List.length_append, List.length_cons, List.length_nil]
    omega
  have h5 := h2 r fun y hy => h y (List.mem_cons_of_mem _ hy)
  omega
theorem argT_len {l : List Int} : (argT l).length ≤ 22 * l.length := by
 have h := join_len (xs := l.map numT) (fun x hx => by obtain ⟨n, _, rfl⟩ := List.mem_map.1 hx; exact numT_len)
 rwa [List.length_map] at h
theorem actPre_len {a : ActD} : (actPre a).length ≤ 3 + 22 * a.Args.length := by
 have h := argT_len (l := a.Args)
 unfold actPre
 simp only [List.length_append, List.length_cons, List.length_nil]
 split <;> simp <;> omega
open Go.Shelf
open Go.Lib in
open Go.Lib in
open Go.Lib in
open Go.Lib in
open Go.RowKit Go.Sort Go.Lib in
open Go.RowKit Go.Sort Go.Lib in
open Go.RowKit Go.Sort Go.Lib in
open Go.RowKit Go.Sort Go.Lib in
open Go.RowKit Go.Sort Go.Lib in
def Tryz.laysM171_ren : Go.Shelf.Ren := ⟨fun | 171 => 43 | 243 => 87 | 246 => 127 | 283 => 151 | 284 => 152 | 285 => 153 | 286 => 154 | 129 => 169 | 317 => 168 | 318 => 170 | 319 => 171 | 320 => 172 | 337 => 177 | 338 => 178 | n => n, fun | 3 => 3 | 9 => 9 | 2 => 2 | 4 => 4 | 171 => 153 | 0 => 0 | 53 => 154 | 37 => 22 | 5 => 5 | 173 => 157 | 212 => 168 | 51 => 169 | 20 => 20 | 213 => 170 | 46 => 83 | 232 => 178 | 233 => 179 | n => n, fun | 17 => 0 | 18 => 1 | 19 => 2 | n => n⟩
theorem Tryz.laysM171 : Go.Proofs.LaysM.n171 Tryz.prog Tryz.laysM171_ren := {
  mixed := by kernel_rfl
  f129 := Tryz.func169.trans (congrArg some (by kernel_rfl))
  f171 := Tryz.func43.trans (congrArg some (by kernel_rfl))
  f243 := Tryz.func87.trans (congrArg some (by kernel_rfl))
  f246 := Tryz.func127.trans (congrArg some (by kernel_rfl))
  f283 := Tryz.func151.trans (congrArg some (by kernel_rfl))
  f284 := Tryz.func152.trans (congrArg some (by kernel_rfl))
  f285 := Tryz.func153.trans (congrArg some (by kernel_rfl))
  f286 := Tryz.func154.trans (congrArg some (by kernel_rfl))
  f317 := Tryz.func168.trans (congrArg some (by kernel_rfl))
  f318 := Tryz.func170.trans (congrArg some (by kernel_rfl))
  f319 := Tryz.func171.trans (congrArg some (by kernel_rfl))
  f320 := Tryz.func172.trans (congrArg some (by kernel_rfl))
  f337 := Tryz.func177.trans (congrArg some (by kernel_rfl))
  f338 := Tryz.func178.trans (congrArg some (by kernel_rfl))
  t0 := Tryz.underlying0
  a0 := Tryz.isAgg0
  z0 := Tryz.sizeOf0
  v0 := Tryz.zeroValue0
  t2 := Tryz.underlying2
  a2 := Tryz.isAgg2
  z2 := Tryz.sizeOf2
  v2 := Tryz.zeroValue2
  t3 := Tryz.underlying3
  a3 := Tryz.isAgg3
  z3 := Tryz.sizeOf3
  v3 := Tryz.zeroValue3
  t4 := Tryz.underlying4
  a4 := Tryz.isAgg4
  z4 := Tryz.sizeOf4
  v4 := Tryz.zeroValue4
  t5 := Tryz.underlying5
  a5 := Tryz.isAgg5
  z5 := Tryz.sizeOf5
  v5 := Tryz.zeroValue5
  t9 := Tryz.underlying9
  a9 := Tryz.isAgg9
  z9 := Tryz.sizeOf9
  v9 := Tryz.zeroValue9
  t20 := Tryz.underlying20
  a20 := Tryz.isAgg20
  z20 := Tryz.sizeOf20
  v20 := Tryz.zeroValue20
  t37 := Tryz.underlying22
  a37 := Tryz.isAgg22
  z37 := Tryz.sizeOf22
  v37 := Tryz.zeroValue22
  t46 := Tryz.underlying83
  a46 := Tryz.isAgg83
  z46 := Tryz.sizeOf83
  v46 := Tryz.zeroValue83
  t51 := Tryz.underlying169
  a51 := Tryz.isAgg169
  z51 := Tryz.sizeOf169
  v51 := Tryz.zeroValue169
  t53 := Tryz.underlying154
  a53 := Tryz.isAgg154
  z53 := Tryz.sizeOf154
  v53 := Tryz.zeroValue154
  t171 := Tryz.underlying153
  a171 := Tryz.isAgg153
  z171 := Tryz.sizeOf153
  v171 := Tryz.zeroValue153
  t173 := Tryz.underlying157
  a173 := Tryz.isAgg157
  z173 := Tryz.sizeOf157
  v173 := Tryz.zeroValue157
  t212 := Tryz.underlying168
  a212 := Tryz.isAgg168
  z212 := Tryz.sizeOf168
  v212 := Tryz.zeroValue168
  t213 := Tryz.underlying170
  a213 := Tryz.isAgg170
  z213 := Tryz.sizeOf170
  t232 := Tryz.underlying178
  a232 := Tryz.isAgg178
  z232 := Tryz.sizeOf178
  v232 := Tryz.zeroValue178
  t233 := Tryz.underlying179
  a233 := Tryz.isAgg179
  z233 := Tryz.sizeOf179
  v233 := Tryz.zeroValue179
  g17 := by kernel_rfl
  g18 := by kernel_rfl
  g19 := by kernel_rfl
  i0 := by kernel_rfl
  i2 := by kernel_rfl
  i3 := by kernel_rfl
  i4 := by kernel_rfl
  i5 := by kernel_rfl
  i9 := by kernel_rfl
  i20 := by kernel_rfl
  i37 := by kernel_rfl
  i46 := by kernel_rfl
  i51 := by kernel_rfl
  i53 := by kernel_rfl
  i171 := by kernel_rfl
  i173 := by kernel_rfl
  i212 := by kernel_rfl
  i232 := by kernel_rfl
  i233 := by kernel_rfl
  m17 := by kernel_rfl
  m18 := by kernel_rfl
  m19 := by kernel_rfl }
open Go.RowKit Go.Sort Go.Lib in
theorem Tryz.strconv_Itoa (n : Int) (h0 : -9223372036854775808 ≤ n) (h1 : n ≤ 9223372036854775807) (w : World) (htab : Lib.TabIs Tryz.prog w "internal/strconv.uint64pow10" .u64 Lib.pow10Tab) :
    Calls Tryz.prog 43 #[.int .i64 n] w fun e w' => e = .returned (.string ⟨(Lib.itoa n).toArray⟩) ∧ ∃ k os, w' = grow (w.drewN k) os := Any.strconv_Itoa Tryz.laysM171 n h0 h1 w htab
open Go.RowKit Go.Sort Go.Lib in
open Go.RowKit Go.Lib in
open Go.RowKit Go.Lib in
open Go.RowKit Go.Lib Go.Sort in
open Go.RowKit Go.Lib Go.Sort in
open Go.RowKit Go.Lib Go.Sort in
open Go.RowKit Go.Lib in
open Go.RowKit Go.Lib in
open Go.RowKit Go.Lib in
open Go.RowKit Go.Lib in
open Go.RowKit Go.Lib in
open Go.RowKit Go.Lib in
open Go.RowKit Go.Lib in
open Go.RowKit Go.Lib Go.Sort in
open Go.RowKit Go.Lib in
open Go.RowKit Go.Lib in
open Go.RowKit Go.Lib in
open Go Go.RowKit
def TabOk (w : World) : Prop := Go.Lib.TabIs Tryz.prog w "internal/strconv.uint64pow10" .u64 Go.Lib.pow10Tab
theorem tab_st {w w' : World} {L : Hp} (h : TabOk w) (hs : St w [] L w') : TabOk w' := by
  have hgn : Tryz.prog.globalNamed "internal/strconv.uint64pow10" = some 0 := by kernel_rfl
  unfold TabOk Go.Lib.TabIs World.var? at h ⊢
  rw [hgn] at h ⊢
  simp only [Option.bind_some] at h ⊢
  have hlt : 0 < w.heap.size := by
    rcases Nat.lt_or_ge 0 w.heap.size with h' | h'
    · exact h'
    · rw [Array.getElem?_eq_none h'] at h; cases h
  rw [hs.keep 0 hlt (by simp)]
  exact h
theorem st_grow (w : World) (k : Nat) (os : Array Obj) : St w [] [] (Go.Sort.grow (w.drewN k) os) := ⟨rfl, rfl, rfl, by show w.heap.size ≤ (w.heap ++ os).size; rw [Array.size_append]; omega, fun k hk _ => by show (w.heap ++ os)[k]? = _; rw [Array.getElem?_append_left hk], (fun _ h => by cases h), List.nodup_nil⟩
theorem k0_ (n : Int) (w : World) (h0 : 0 ≤ n ∧ n ≤ 4294967295) (ht : TabOk w) : Calls Tryz.prog 43 #[i64 n] w fun e w' => e = .returned (.string (numBA n)) ∧ St w [] [] w' := by
  refine (Tryz.strconv_Itoa n (by omega) (by omega) w ht).mono ?_
  rintro e w' ⟨rfl, k, os, rfl⟩
  refine ⟨?_, st_grow _ _ _⟩
  unfold numBA numT
  rw [if_pos h0, show Go.Lib.itoa n = Go.Lib.decDigits n.toNat from by unfold Go.Lib.itoa; rw [if_neg (by omega)]]
def tbt1 : TT := .node .leaf 0 ⟨.other, 1, false⟩ .leaf
def tbt2 : TT := .node .leaf 4 ⟨.bool, 1, false⟩ .leaf
def tbt3 : TT := .node tbt1 3 ⟨.int .i64, 1, false⟩ tbt2
def tbt4 : TT := .node .leaf 9 ⟨.str, 1, false⟩ .leaf
def tbt5 : TT := .node tbt4 20 ⟨.other, 1, false⟩ .leaf
def tbt6 : TT := .node tbt3 5 ⟨.int .u8, 1, false⟩ tbt5
def tbt7 : TT := .node .leaf 24 ⟨.struct [0, 1, 2, 3, 4], 5, true⟩ .leaf
def tbt8 : TT := .node tbt7 26 ⟨.slice 3, 1, false⟩ .leaf
def tbt9 : TT := .node .leaf 29 ⟨.slice 108, 1, false⟩ .leaf
def tbt10 : TT := .node tbt9 31 ⟨.struct [0, 1, 2], 3, true⟩ .leaf
def tbt11 : TT := .node tbt8 28 ⟨.struct [0, 1, 2, 3], 4, true⟩ tbt10
def tbt12 : TT := .node tbt6 22 ⟨.slice 5, 1, false⟩ tbt11
def tbt13 : TT := .node .leaf 34 ⟨.struct [0, 1, 2, 5, 8, 9, 10, 11, 12, 17, 18, 19, 20, 21, 22, 23, 28, 29, 30], 31, true⟩ .leaf
def tbt14 : TT := .node tbt13 36 ⟨.struct [0, 4], 35, true⟩ .leaf
def tbt15 : TT := .node .leaf 46 ⟨.other, 1, false⟩ .leaf
def tbt16 : TT := .node tbt15 51 ⟨.other, 1, false⟩ .leaf
def tbt17 : TT := .node tbt14 40 ⟨.other, 1, false⟩ tbt16
def tbt18 : TT := .node .leaf 55 ⟨.other, 1, false⟩ .leaf
def tbt19 : TT := .node tbt18 58 ⟨.struct [0, 1, 2, 3], 4, true⟩ .leaf
def tbt20 : TT := .node .leaf 62 ⟨.slice 60, 1, false⟩ .leaf
def tbt21 : TT := .node tbt20 63 ⟨.slice 4, 1, false⟩ .leaf
def tbt22 : TT := .node tbt19 60 ⟨.struct [0, 1], 2, true⟩ tbt21
def tbt23 : TT := .node tbt17 54 ⟨.slice 58, 1, false⟩ tbt22
def tbt24 : TT := .node tbt12 32 ⟨.slice 93, 1, false⟩ tbt23
def tbt25 : TT := .node .leaf 73 ⟨.other, 1, false⟩ .leaf
def tbt26 : TT := .node tbt25 77 ⟨.other, 1, false⟩ .leaf
def tbt27 : TT := .node .leaf 80 ⟨.other, 1, false⟩ .leaf
def tbt28 : TT := .node tbt27 82 ⟨.other, 1, false⟩ .leaf
def tbt29 : TT := .node tbt26 79 ⟨.other, 1, false⟩ tbt28
def tbt30 : TT := .node .leaf 90 ⟨.slice 9, 1, false⟩ .leaf
def tbt31 : TT := .node tbt30 93 ⟨.struct [0], 1, true⟩ .leaf
def tbt32 : TT := .node .leaf 95 ⟨.other, 1, false⟩ .leaf
def tbt33 : TT := .node tbt32 100 ⟨.slice 31, 1, false⟩ .leaf
def tbt34 : TT := .node tbt31 94 ⟨.other, 1, false⟩ tbt33
def tbt35 : TT := .node tbt29 83 ⟨.int .u64, 1, false⟩ tbt34
def tbt36 : TT := .node .leaf 109 ⟨.other, 1, false⟩ .leaf
def tbt37 : TT := .node tbt36 114 ⟨.other, 1, false⟩ .leaf
def tbt38 : TT := .node .leaf 127 ⟨.other, 1, false⟩ .leaf
def tbt39 : TT := .node tbt38 140 ⟨.other, 1, false⟩ .leaf
def tbt40 : TT := .node tbt37 125 ⟨.other, 1, false⟩ tbt39
def tbt41 : TT := .node .leaf 154 ⟨.int .u64, 1, false⟩ .leaf
def tbt42 : TT := .node tbt41 164 ⟨.other, 1, false⟩ .leaf
def tbt43 : TT := .node .leaf 173 ⟨.other, 1, false⟩ .leaf
def tbt44 : TT := .node tbt43 175 ⟨.other, 1, false⟩ .leaf
def tbt45 : TT := .node tbt42 169 ⟨.int .u32, 1, false⟩ tbt44
def tbt46 : TT := .node tbt40 150 ⟨.other, 1, false⟩ tbt45
def tbt47 : TT := .node tbt35 108 ⟨.struct [0, 1], 6, true⟩ tbt46
def tbt48 : TT := .node tbt24 67 ⟨.struct [0, 1, 2], 3, true⟩ tbt47
theorem tbt1_ok : tbt1.Ok Tryz.prog := ⟨trivial, ⟨trivial, Tryz.sizeOf0, Tryz.isAgg0⟩, trivial⟩
theorem tbt2_ok : tbt2.Ok Tryz.prog := ⟨trivial, ⟨Tryz.runUnderlying4, Tryz.sizeOf4, Tryz.isAgg4⟩, trivial⟩
theorem tbt3_ok : tbt3.Ok Tryz.prog := ⟨tbt1_ok, ⟨Tryz.runUnderlying3, Tryz.sizeOf3, Tryz.isAgg3⟩, tbt2_ok⟩
theorem tbt4_ok : tbt4.Ok Tryz.prog := ⟨trivial, ⟨Tryz.runUnderlying9, Tryz.sizeOf9, Tryz.isAgg9⟩, trivial⟩
theorem tbt5_ok : tbt5.Ok Tryz.prog := ⟨tbt4_ok, ⟨trivial, Tryz.sizeOf20, Tryz.isAgg20⟩, trivial⟩
theorem tbt6_ok : tbt6.Ok Tryz.prog := ⟨tbt3_ok, ⟨Tryz.runUnderlying5, Tryz.sizeOf5, Tryz.isAgg5⟩, tbt5_ok⟩
theorem tbt7_ok : tbt7.Ok Tryz.prog := ⟨trivial, ⟨⟨_, Tryz.runUnderlying24, rfl, ⟨⟨_, Tryz.sizeOf3, rfl⟩, ⟨⟨_, Tryz.sizeOf3, rfl⟩, ⟨⟨_, Tryz.sizeOf4, rfl⟩, ⟨⟨_, Tryz.sizeOf4, rfl⟩, ⟨⟨_, Tryz.sizeOf4, rfl⟩, trivial⟩⟩⟩⟩⟩⟩, Tryz.sizeOf24, Tryz.isAgg24⟩, trivial⟩
theorem tbt8_ok : tbt8.Ok Tryz.prog := ⟨tbt7_ok, ⟨Tryz.runUnderlying26, Tryz.sizeOf26, Tryz.isAgg26⟩, trivial⟩
theorem tbt9_ok : tbt9.Ok Tryz.prog := ⟨trivial, ⟨Tryz.runUnderlying29, Tryz.sizeOf29, Tryz.isAgg29⟩, trivial⟩
theorem tbt10_ok : tbt10.Ok Tryz.prog := ⟨tbt9_ok, ⟨⟨_, Tryz.runUnderlying31, rfl, ⟨⟨_, Tryz.sizeOf3, rfl⟩, ⟨⟨_, Tryz.sizeOf3, rfl⟩, ⟨⟨_, Tryz.sizeOf29, rfl⟩, trivial⟩⟩⟩⟩, Tryz.sizeOf31, Tryz.isAgg31⟩, trivial⟩
theorem tbt11_ok : tbt11.Ok Tryz.prog := ⟨tbt8_ok, ⟨⟨_, Tryz.runUnderlying28, rfl, ⟨⟨_, Tryz.sizeOf3, rfl⟩, ⟨⟨_, Tryz.sizeOf4, rfl⟩, ⟨⟨_, Tryz.sizeOf26, rfl⟩, ⟨⟨_, Tryz.sizeOf22, rfl⟩, trivial⟩⟩⟩⟩⟩, Tryz.sizeOf28, Tryz.isAgg28⟩, tbt10_ok⟩
theorem tbt12_ok : tbt12.Ok Tryz.prog := ⟨tbt6_ok, ⟨Tryz.runUnderlying22, Tryz.sizeOf22, Tryz.isAgg22⟩, tbt11_ok⟩
theorem tbt13_ok : tbt13.Ok Tryz.prog := ⟨trivial, ⟨⟨_, Tryz.runUnderlying34, rfl, ⟨⟨_, Tryz.sizeOf3, rfl⟩, ⟨⟨_, Tryz.sizeOf3, rfl⟩, ⟨⟨_, Tryz.sizeOf31, rfl⟩, ⟨⟨_, Tryz.sizeOf31, rfl⟩, ⟨⟨_, Tryz.sizeOf4, rfl⟩, ⟨⟨_, Tryz.sizeOf3, rfl⟩, ⟨⟨_, Tryz.sizeOf3, rfl⟩, ⟨⟨_, Tryz.sizeOf4, rfl⟩, ⟨⟨_, Tryz.sizeOf24, rfl⟩, ⟨⟨_, Tryz.sizeOf3, rfl⟩, ⟨⟨_, Tryz.sizeOf3, rfl⟩, ⟨⟨_, Tryz.sizeOf4, rfl⟩, ⟨⟨_, Tryz.sizeOf4, rfl⟩, ⟨⟨_, Tryz.sizeOf3, rfl⟩, ⟨⟨_, Tryz.sizeOf3, rfl⟩, ⟨⟨_, Tryz.sizeOf24, rfl⟩, ⟨⟨_, Tryz.sizeOf26, rfl⟩, ⟨⟨_, Tryz.sizeOf3, rfl⟩, ⟨⟨_, Tryz.sizeOf32, rfl⟩, trivial⟩⟩⟩⟩⟩⟩⟩⟩⟩⟩⟩⟩⟩⟩⟩⟩⟩⟩⟩⟩, Tryz.sizeOf34, Tryz.isAgg34⟩, trivial⟩
theorem tbt14_ok : tbt14.Ok Tryz.prog := ⟨tbt13_ok, ⟨⟨_, Tryz.runUnderlying36, rfl, ⟨⟨_, Tryz.sizeOf28, rfl⟩, ⟨⟨_, Tryz.sizeOf34, rfl⟩, trivial⟩⟩⟩, Tryz.sizeOf36, Tryz.isAgg36⟩, trivial⟩
theorem tbt15_ok : tbt15.Ok Tryz.prog := ⟨trivial, ⟨trivial, Tryz.sizeOf46, Tryz.isAgg46⟩, trivial⟩
theorem tbt16_ok : tbt16.Ok Tryz.prog := ⟨tbt15_ok, ⟨trivial, Tryz.sizeOf51, Tryz.isAgg51⟩, trivial⟩
theorem tbt17_ok : tbt17.Ok Tryz.prog := ⟨tbt14_ok, ⟨trivial, Tryz.sizeOf40, Tryz.isAgg40⟩, tbt16_ok⟩
theorem tbt18_ok : tbt18.Ok Tryz.prog := ⟨trivial, ⟨trivial, Tryz.sizeOf55, Tryz.isAgg55⟩, trivial⟩
theorem tbt19_ok : tbt19.Ok Tryz.prog := ⟨tbt18_ok, ⟨⟨_, Tryz.runUnderlying58, rfl, ⟨⟨_, Tryz.sizeOf3, rfl⟩, ⟨⟨_, Tryz.sizeOf3, rfl⟩, ⟨⟨_, Tryz.sizeOf4, rfl⟩, ⟨⟨_, Tryz.sizeOf26, rfl⟩, trivial⟩⟩⟩⟩⟩, Tryz.sizeOf58, Tryz.isAgg58⟩, trivial⟩
theorem tbt20_ok : tbt20.Ok Tryz.prog := ⟨trivial, ⟨Tryz.runUnderlying62, Tryz.sizeOf62, Tryz.isAgg62⟩, trivial⟩
theorem tbt21_ok : tbt21.Ok Tryz.prog := ⟨tbt20_ok, ⟨Tryz.runUnderlying63, Tryz.sizeOf63, Tryz.isAgg63⟩, trivial⟩
theorem tbt22_ok : tbt22.Ok Tryz.prog := ⟨tbt19_ok, ⟨⟨_, Tryz.runUnderlying60, rfl, ⟨⟨_, Tryz.sizeOf4, rfl⟩, ⟨⟨_, Tryz.sizeOf9, rfl⟩, trivial⟩⟩⟩, Tryz.sizeOf60, Tryz.isAgg60⟩, tbt21_ok⟩
theorem tbt23_ok : tbt23.Ok Tryz.prog := ⟨tbt17_ok, ⟨Tryz.runUnderlying54, Tryz.sizeOf54, Tryz.isAgg54⟩, tbt22_ok⟩
theorem tbt24_ok : tbt24.Ok Tryz.prog := ⟨tbt12_ok, ⟨Tryz.runUnderlying32, Tryz.sizeOf32, Tryz.isAgg32⟩, tbt23_ok⟩
theorem tbt25_ok : tbt25.Ok Tryz.prog := ⟨trivial, ⟨trivial, Tryz.sizeOf73, Tryz.isAgg73⟩, trivial⟩
theorem tbt26_ok : tbt26.Ok Tryz.prog := ⟨tbt25_ok, ⟨trivial, Tryz.sizeOf77, Tryz.isAgg77⟩, trivial⟩
theorem tbt27_ok : tbt27.Ok Tryz.prog := ⟨trivial, ⟨trivial, Tryz.sizeOf80, Tryz.isAgg80⟩, trivial⟩
theorem tbt28_ok : tbt28.Ok Tryz.prog := ⟨tbt27_ok, ⟨trivial, Tryz.sizeOf82, Tryz.isAgg82⟩, trivial⟩
theorem tbt29_ok : tbt29.Ok Tryz.prog := ⟨tbt26_ok, ⟨trivial, Tryz.sizeOf79, Tryz.isAgg79⟩, tbt28_ok⟩
theorem tbt30_ok : tbt30.Ok Tryz.prog := ⟨trivial, ⟨Tryz.runUnderlying90, Tryz.sizeOf90, Tryz.isAgg90⟩, trivial⟩
theorem tbt31_ok : tbt31.Ok Tryz.prog := ⟨tbt30_ok, ⟨⟨_, Tryz.runUnderlying93, rfl, ⟨⟨_, Tryz.sizeOf29, rfl⟩, trivial⟩⟩, Tryz.sizeOf93, Tryz.isAgg93⟩, trivial⟩
theorem tbt32_ok : tbt32.Ok Tryz.prog := ⟨trivial, ⟨trivial, Tryz.sizeOf95, Tryz.isAgg95⟩, trivial⟩
theorem tbt33_ok : tbt33.Ok Tryz.prog := ⟨tbt32_ok, ⟨Tryz.runUnderlying100, Tryz.sizeOf100, Tryz.isAgg100⟩, trivial⟩
theorem tbt34_ok : tbt34.Ok Tryz.prog := ⟨tbt31_ok, ⟨trivial, Tryz.sizeOf94, Tryz.isAgg94⟩, tbt33_ok⟩
theorem tbt35_ok : tbt35.Ok Tryz.prog := ⟨tbt29_ok, ⟨Tryz.runUnderlying83, Tryz.sizeOf83, Tryz.isAgg83⟩, tbt34_ok⟩
theorem tbt36_ok : tbt36.Ok Tryz.prog := ⟨trivial, ⟨trivial, Tryz.sizeOf109, Tryz.isAgg109⟩, trivial⟩
theorem tbt37_ok : tbt37.Ok Tryz.prog := ⟨tbt36_ok, ⟨trivial, Tryz.sizeOf114, Tryz.isAgg114⟩, trivial⟩
theorem tbt38_ok : tbt38.Ok Tryz.prog := ⟨trivial, ⟨trivial, Tryz.sizeOf127, Tryz.isAgg127⟩, trivial⟩
theorem tbt39_ok : tbt39.Ok Tryz.prog := ⟨tbt38_ok, ⟨trivial, Tryz.sizeOf140, Tryz.isAgg140⟩, trivial⟩
theorem tbt40_ok : tbt40.Ok Tryz.prog := ⟨tbt37_ok, ⟨trivial, Tryz.sizeOf125, Tryz.isAgg125⟩, tbt39_ok⟩
theorem tbt41_ok : tbt41.Ok Tryz.prog := ⟨trivial, ⟨Tryz.runUnderlying154, Tryz.sizeOf154, Tryz.isAgg154⟩, trivial⟩
theorem tbt42_ok : tbt42.Ok Tryz.prog := ⟨tbt41_ok, ⟨trivial, Tryz.sizeOf164, Tryz.isAgg164⟩, trivial⟩
theorem tbt43_ok : tbt43.Ok Tryz.prog := ⟨trivial, ⟨trivial, Tryz.sizeOf173, Tryz.isAgg173⟩, trivial⟩
theorem tbt44_ok : tbt44.Ok Tryz.prog := ⟨tbt43_ok, ⟨trivial, Tryz.sizeOf175, Tryz.isAgg175⟩, trivial⟩
theorem tbt45_ok : tbt45.Ok Tryz.prog := ⟨tbt42_ok, ⟨Tryz.runUnderlying169, Tryz.sizeOf169, Tryz.isAgg169⟩, tbt44_ok⟩
theorem tbt46_ok : tbt46.Ok Tryz.prog := ⟨tbt40_ok, ⟨trivial, Tryz.sizeOf150, Tryz.isAgg150⟩, tbt45_ok⟩
theorem tbt47_ok : tbt47.Ok Tryz.prog := ⟨tbt35_ok, ⟨⟨_, Tryz.runUnderlying108, rfl, ⟨⟨_, Tryz.sizeOf3, rfl⟩, ⟨⟨_, Tryz.sizeOf24, rfl⟩, trivial⟩⟩⟩, Tryz.sizeOf108, Tryz.isAgg108⟩, tbt46_ok⟩
theorem tbt48_ok : tbt48.Ok Tryz.prog := ⟨tbt24_ok, ⟨⟨_, Tryz.runUnderlying67, rfl, ⟨⟨_, Tryz.sizeOf22, rfl⟩, ⟨⟨_, Tryz.sizeOf3, rfl⟩, ⟨⟨_, Tryz.sizeOf3, rfl⟩, trivial⟩⟩⟩⟩, Tryz.sizeOf67, Tryz.isAgg67⟩, tbt47_ok⟩
theorem tbk : TT.Ok Tryz.prog tbt48 := tbt48_ok
instance tbkI : TbOk Tryz.prog tbt48 := ⟨tbk⟩
instance mxI : Mx Tryz.prog := ⟨by kernel_rfl⟩
theorem mixed : Tryz.prog.follows .mixedOrders = true := by kernel_rfl
instance boolPW {n lo hi : Int} : BoolP (within n lo hi) (lo ≤ n ∧ n ≤ hi) (¬ (lo ≤ n ∧ n ≤ hi)) := ⟨within_iff.1, within_not.1⟩
theorem k1_ (n lo hi : Int) (w : World) :
    Calls Tryz.prog 23 #[i64 n, i64 lo, i64 hi] w fun e w' => e = .returned (.bool (within n lo hi)) ∧ St w [] [] w' := by
 refine enter 15 Tryz.func23 rfl Tryz.ntmps23 rfl rfl ?_
 have hs1 := St.init w
 refine WC.r1 hs1 [] rfl (WC.sr (WL.r 4 hs1 [] rfl (WL.pA tbk 3 Acts.nil hs1 [] rfl rfl rfl rfl (fun g_ => trivial) (WL.r 1 hs1 [] rfl (WL.nil (WC.ret (retV1 rfl (resV.tmp rfl) ?_)))))))
 refine ⟨congrArg Ending.returned ?_, hs1.nil⟩
 rfl
theorem k2_ (n : Int) (w : World) :
    Calls Tryz.prog 37 #[i64 n] w fun e w' => e = .returned (.bool (shows n)) ∧ St w [] [] w' := by
 refine enter 14 Tryz.func37 rfl Tryz.ntmps37 rfl rfl ?_
 have hs1 := St.init w
 refine WC.r1 hs1 [] rfl (WC.sr (WL.r 1 hs1 [] rfl (WL.cl Tryz.call23 rfl (k1_ _ _ _ _) ?_)))
 rintro _ whs2 ⟨rfl, hs2⟩
 replace hs2 := hs1.call0 hs2
 refine ⟨_, rfl, WL.r 1 hs2 [] rfl ?_⟩
 apply WL.gO 7 Acts.nil hs2 rfl
 ·intro g3 J4
  have qg3 := g3
  try simp only [bf, within_iff, within_not] at qg3
  refine WL.runA tbk 1 (Acts.nil.cons (j := 2) rfl g3) hs2 [] rfl trivial (WL.call (wantF rfl g3) rfl rfl (Run.call Tryz.call23 rfl rfl rfl) (k1_ _ _ _ _) ?_)
  rintro _ whs5 ⟨rfl, hs5⟩
  replace hs5 := hs2.call0 hs5
  refine ⟨_, rfl, WL.runA tbk 1 (Acts.nil.cons (j := 2) rfl g3) hs5 [] rfl trivial ?_⟩
  apply WL.gA 3 (Acts.nil.cons (j := 2) rfl g3) hs5 rfl
  ·intro g6 J7
   have qg6 := g6
   try simp only [bf, within_iff, within_not] at qg6
   refine WL.runA tbk 1 (Acts.nil.cons (j := 5) rfl g6) hs5 [] rfl trivial (WL.call (wantT rfl g6) rfl rfl (Run.call Tryz.call23 rfl rfl rfl) (k1_ _ _ _ _) ?_)
   rintro _ whs8 ⟨rfl, hs8⟩
   replace hs8 := hs5.call0 hs8
   refine ⟨_, rfl, WL.runA tbk 1 (Acts.nil.cons (j := 5) rfl g6) hs8 [] rfl trivial (WL.eA 3 (Acts.nil.cons (j := 2) rfl g3) J7 hs8 g6 rfl rfl)⟩
  intro _ hs9
  exact WL.eO 4 Acts.nil J4 hs9 g3 rfl rfl
 intro _ hs10
 refine WL.r 1 hs10 [] rfl (WL.nil (WC.ret (rtv rfl rfl hs10 ?_)))
 rfl
theorem k3_ (n : Int) (w : World) :
    Calls Tryz.prog 88 #[i64 n] w fun e w' => e = .returned (.bool (shows n)) ∧ St w [] [] w' := by
 refine enter 25 Tryz.func88 rfl Tryz.ntmps88 rfl rfl ?_
 have hs1 := St.init w
 refine WC.r1 hs1 [] rfl (WC.sr (WL.r 3 hs1 [] rfl (WL.pA tbk 2 Acts.nil hs1 [] rfl rfl rfl rfl (fun g_ => trivial) (WL.r 1 hs1 [] rfl ?_))))
 apply WL.gO 14 Acts.nil hs1 rfl
 ·intro g2 J3
  have qg2 := g2
  try simp only [bf, within_iff, within_not] at qg2
  refine WL.runA tbk 3 (Acts.nil.cons (j := 6) rfl g2) hs1 [] rfl trivial (WL.pA tbk 2 (Acts.nil.cons (j := 6) rfl g2) hs1 [] rfl rfl rfl rfl (fun g_ => trivial) (WL.runA tbk 1 (Acts.nil.cons (j := 6) rfl g2) hs1 [] rfl trivial ?_))
  apply WL.gA 6 (Acts.nil.cons (j := 6) rfl g2) hs1 rfl
  ·intro g4 J5
   have qg4 := g4
   try simp only [bf, within_iff, within_not] at qg4
   refine WL.runA tbk 3 (Acts.nil.cons (j := 13) rfl g4) hs1 [] rfl trivial (WL.pO tbk 2 (Acts.nil.cons (j := 13) rfl g4) hs1 [] rfl rfl rfl rfl (fun g_ => trivial) (WL.eA 4 (Acts.nil.cons (j := 6) rfl g2) J5 hs1 g4 rfl rfl))
  intro _ hs6
  exact WL.eO 6 Acts.nil J3 hs6 g2 rfl rfl
 intro _ hs7
 refine WL.r 1 hs7 [] rfl (WL.nil (WC.ret (rtv rfl rfl hs7 ?_)))
 refine congrArg Value.bool ?_; rw [Bool.eq_iff_iff]; simp [shows, within] <;> omega
theorem k4_ (a_Fg : Int) (a_Bg : Int) (a_Bold : Bool) (a_Under : Bool) (a_Turn : Bool) (w : World) :
    Calls Tryz.prog 10 #[.agg #[i64 a_Fg, i64 a_Bg, .bool a_Bold, .bool a_Under, .bool a_Turn]] w fun e w' => e = .returned (.bool (attrOk a_Fg a_Bg)) ∧ St w [] [] w' := by
 refine enter 11 Tryz.func10 rfl Tryz.ntmps10 rfl rfl ?_
 have hs1 := St.init w
 refine WC.sr (WL.bx hs1 rfl (fun b2 _ hs3 => WL.r 1 hs3 [] rfl (WL.nil (WC.sr (WL.r 2 hs3 [0] rfl (WL.cl Tryz.call23 rfl (k1_ _ _ _ _) ?_))))))
 rintro _ whs4 ⟨rfl, hs4⟩
 replace hs4 := hs3.call0 hs4
 refine ⟨_, rfl, WL.r 1 hs4 [] rfl ?_⟩
 apply WL.gA 3 Acts.nil hs4 rfl
 ·intro g5 J6
  have qg5 := g5
  try simp only [bf, within_iff, within_not] at qg5
  refine WL.runA tbk 2 (Acts.nil.cons (j := 3) rfl g5) hs4 [0] rfl ⟨rfl, trivial⟩ (WL.call (wantT rfl g5) rfl rfl (Run.call Tryz.call23 rfl rfl rfl) (k1_ _ _ _ _) ?_)
  rintro _ whs7 ⟨rfl, hs7⟩
  replace hs7 := hs4.call0 hs7
  refine ⟨_, rfl, WL.eA 3 Acts.nil J6 hs7 g5 rfl rfl⟩
 intro _ hs8
 refine WL.r 1 hs8 [] rfl (WL.nil (WC.ret (rtv rfl rfl hs8 ?_)))
 rfl
theorem k5_ (a_Fg : Int) (a_Bg : Int) (a_Bold : Bool) (a_Under : Bool) (a_Turn : Bool) (w : World) :
    Calls Tryz.prog 56 #[.agg #[i64 a_Fg, i64 a_Bg, .bool a_Bold, .bool a_Under, .bool a_Turn]] w fun e w' => e = .returned (.bool (attrOk a_Fg a_Bg)) ∧ St w [] [] w' := by
 refine enter 21 Tryz.func56 rfl Tryz.ntmps56 rfl rfl ?_
 have hs1 := St.init w
 refine WC.sr (WL.bx hs1 rfl (fun b2 _ hs3 => WL.r 1 hs3 [] rfl (WL.nil (WC.sr (WL.r 4 hs3 [0] rfl (WL.pA tbk 3 Acts.nil hs3 [0] rfl rfl rfl rfl (fun g_ => ⟨rfl, trivial⟩) (WL.r 1 hs3 [] rfl ?_)))))))
 refine WL.pA tbk 3 Acts.nil hs3 [0] rfl rfl rfl rfl (fun g_ => ⟨rfl, trivial⟩) (WL.r 1 hs3 [] rfl (WL.pA tbk 3 Acts.nil hs3 [0] rfl rfl rfl rfl (fun g_ => ⟨rfl, trivial⟩) (WL.r 1 hs3 [] rfl (WL.nil (WC.ret (rtv rfl rfl hs3 ?_))))))
 simp [attrOk, within, Bool.and_assoc]
theorem k6_ (c_R : Int) (c_A_Fg : Int) (c_A_Bg : Int) (c_A_Bold : Bool) (c_A_Under : Bool) (c_A_Turn : Bool) (w : World) :
    Calls Tryz.prog 141 #[.agg #[i64 c_R, i64 c_A_Fg, i64 c_A_Bg, .bool c_A_Bold, .bool c_A_Under, .bool c_A_Turn]] w fun e w' => e = .returned (.bool (cellOk ⟨c_R, ⟨c_A_Fg, c_A_Bg, c_A_Bold, c_A_Under, c_A_Turn⟩⟩)) ∧ St w [] [] w' := by
 refine enter 11 Tryz.func141 rfl Tryz.ntmps141 rfl rfl ?_
 have hs1 := St.init w
 refine WC.sr (WL.bx hs1 rfl (fun b2 _ hs3 => WL.r 1 hs3 [] rfl (WL.nil (WC.sr (WL.r 2 hs3 [0] rfl (WL.cl Tryz.call37 rfl (k2_ _ _) ?_))))))
 rintro _ whs4 ⟨rfl, hs4⟩
 replace hs4 := hs3.call0 hs4
 refine ⟨_, rfl, WL.r 1 hs4 [] rfl ?_⟩
 apply WL.gA 3 Acts.nil hs4 rfl
 ·intro g5 J6
  have qg5 := g5
  try simp only [bf, within_iff, within_not] at qg5
  refine WL.runA tbk 2 (Acts.nil.cons (j := 3) rfl g5) hs4 [0] rfl ⟨rfl, trivial⟩ (WL.call (wantT rfl g5) rfl rfl (Run.call Tryz.call10 rfl rfl rfl) (k4_ _ _ _ _ _ _) ?_)
  rintro _ whs7 ⟨rfl, hs7⟩
  replace hs7 := hs4.call0 hs7
  refine ⟨_, rfl, WL.eA 3 Acts.nil J6 hs7 g5 rfl rfl⟩
 intro _ hs8
 refine WL.r 1 hs8 [] rfl (WL.nil (WC.ret (rtv rfl rfl hs8 ?_)))
 rfl
theorem k7_ (c_R : Int) (c_A_Fg : Int) (c_A_Bg : Int) (c_A_Bold : Bool) (c_A_Under : Bool) (c_A_Turn : Bool) (w : World) :
    Calls Tryz.prog 99 #[.agg #[i64 c_R, i64 c_A_Fg, i64 c_A_Bg, .bool c_A_Bold, .bool c_A_Under, .bool c_A_Turn]] w fun e w' => e = .returned (.bool (cellOk ⟨c_R, ⟨c_A_Fg, c_A_Bg, c_A_Bold, c_A_Under, c_A_Turn⟩⟩)) ∧ St w [] [] w' := by
 refine enter 11 Tryz.func99 rfl Tryz.ntmps99 rfl rfl ?_
 have hs1 := St.init w
 refine WC.sr (WL.bx hs1 rfl (fun b2 _ hs3 => WL.r 1 hs3 [] rfl (WL.nil (WC.sr (WL.r 2 hs3 [0] rfl (WL.cl Tryz.call88 rfl (k3_ _ _) ?_))))))
 rintro _ whs4 ⟨rfl, hs4⟩
 replace hs4 := hs3.call0 hs4
 refine ⟨_, rfl, WL.r 1 hs4 [] rfl ?_⟩
 apply WL.gA 3 Acts.nil hs4 rfl
 ·intro g5 J6
  have qg5 := g5
  try simp only [bf, within_iff, within_not] at qg5
  refine WL.runA tbk 2 (Acts.nil.cons (j := 3) rfl g5) hs4 [0] rfl ⟨rfl, trivial⟩ (WL.call (wantT rfl g5) rfl rfl (Run.call Tryz.call56 rfl rfl rfl) (k5_ _ _ _ _ _ _) ?_)
  rintro _ whs7 ⟨rfl, hs7⟩
  replace hs7 := hs4.call0 hs7
  refine ⟨_, rfl, WL.eA 3 Acts.nil J6 hs7 g5 rfl rfl⟩
 intro _ hs8
 refine WL.r 1 hs8 [] rfl (WL.nil (WC.ret (rtv rfl rfl hs8 ?_)))
 rfl
theorem k8_ (c_R : Int) (c_A_Fg : Int) (c_A_Bg : Int) (c_A_Bold : Bool) (c_A_Under : Bool) (c_A_Turn : Bool) (w : World) :
    Calls Tryz.prog 140 #[.agg #[i64 c_R, i64 c_A_Fg, i64 c_A_Bg, .bool c_A_Bold, .bool c_A_Under, .bool c_A_Turn]] w fun e w' => e = .returned (.bool (!cellOk ⟨c_R, ⟨c_A_Fg, c_A_Bg, c_A_Bold, c_A_Under, c_A_Turn⟩⟩)) ∧ St w [] [] w' := by
 refine enter 6 Tryz.func140 rfl Tryz.ntmps140 rfl rfl ?_
 have hs1 := St.init w
 refine WC.sr (WL.bx hs1 rfl (fun b2 _ hs3 => WL.r 1 hs3 [] rfl (WL.nil (WC.sr (WL.r 1 hs3 [0] rfl (WL.cl Tryz.call141 rfl (k6_ _ _ _ _ _ _ _) ?_))))))
 rintro _ whs4 ⟨rfl, hs4⟩
 replace hs4 := hs3.call0 hs4
 refine ⟨_, rfl, WL.r 2 hs4 [] rfl (WL.nil (WC.ret (rtv rfl rfl hs4 ?_)))⟩
 rfl
theorem k9_ (A_s : Option Addr) (n_s c_s : Nat) (s : List CellD) (w : World) (f_s : SlF encCell w A_s n_s s) (hn : n_s ≤ 1099511627776) :
    Calls Tryz.prog 164 #[.slice A_s n_s c_s, .func (.func 140) #[] #[]] w fun e w' => e = .returned (.int .i64 (findI (fun c => !cellOk c) s)) ∧ St w [] [] w' := by
 refine enter 19 Tryz.func164 rfl Tryz.ntmps164 rfl rfl ?_
 have hs1 := St.init w
 refine WC.r1 hs1 [] rfl (WC.seq (fun K2 hK2 => WC.r1 hs1 [] rfl (WC.block ?_)))
 refine WC.lS [0, 1, 7] rfl hs1 (fun k_ f w' => ∃ (i : Nat), k_ = n_s - i ∧ (i ≤ n_s) ∧ (∀ j, j < i → (fun c => !cellOk c) (gat encCell s j) = false) ∧ Sub [(8, .int .i64 i)] f) ((fun (i : Nat) => n_s - i) (0)) ?_ ?_
 ·refine ⟨0, rfl, ?_, ?_, ⟨rfl, trivial⟩⟩
  · exact Nat.zero_le _
  · exact fun j hj => absurd hj (by omega)
 clear hs1
 rintro _ f w ⟨i, rfl, p0, p1, hG⟩ hF hs3
 refine WC.sub _ (hG.app hF) ?_
 clear hG hF
 refine WC.r1 hs3 [] rfl (WC.seq (fun K4 hK4 => ?_))
 refine WC.cond rfl (fun h5 => ?_) (fun h5 => ?_)
 ·have qh5 := h5
  try simp only [decide_eq_true_eq, decide_eq_false_iff_not] at qh5
  refine WC.skip (hK4 _ _ (WC.seq (fun K6 hK6 => WC.block (WC.r1 hs3 [] rfl (WC.sr (WL.r 3 hs3 [] rfl ?_))))))
  refine WL.val rfl rfl rfl (Run.idxN Tryz.runUnderlying29 Tryz.sizeOf108 rfl rfl rfl ?_ ?_ ?_) ?_
  · exact SlF.some_ (SlF.st0 f_s hs3)
  · omega
  · omega
  refine WL.val rfl rfl rfl (Run.loadA Tryz.isAgg108 Tryz.sizeOf108 rfl rfl (SlF.whole (SlF.st0 f_s hs3) ?_)) ?_
  · omega
  refine WL.cl Tryz.call140 rfl (k8_ _ _ _ _ _ _ _) ?_
  rintro _ whs7 ⟨rfl, hs7⟩
  replace hs7 := hs3.call0 hs7
  refine ⟨_, rfl, WL.nil (WC.cond rfl (fun h8 => ?_) (fun h8 => ?_))⟩
  ·have qh8 := h8
   try simp only [decide_eq_true_eq, decide_eq_false_iff_not] at qh8
   refine WC.r1 hs7 [] rfl (WC.ret (ibR (tkR (tkR (ibR (tkR ?_))))))
   clear hK6 hK2
   refine rtv rfl rfl hs7 ?_
   rw [findI_some (F := encCell) (by rw [f_s.len]; omega) p1 h8]
  have qh8 := h8
  try simp only [decide_eq_true_eq, decide_eq_false_iff_not] at qh8
  refine WC.skip (hK6 _ _ (WC.region (WL.r 2 hs7 [] rfl (WL.nil (tkN ?_)))))
  refine ⟨sbF rfl, hs7, _, ?_, i + 1, rfl, ?_, ?_, ⟨rfl, trivial⟩⟩
  · omega
  · omega
  · intro j hj; rcases Nat.lt_or_ge j i with h_ | h_
    · exact p1 j h_
    · obtain rfl : j = i := by omega
      exact h8
 have qh5 := h5
 try simp only [decide_eq_true_eq, decide_eq_false_iff_not] at qh5
 refine WC.exit (hK2 _ _ (WC.r1 hs3 [] rfl (WC.ret (rtv rfl rfl hs3 ?_))))
 rw [findI_none (F := encCell) (fun j hj => p1 j (by rw [f_s.len] at hj; omega))]
theorem k10_ (A_s : Option Addr) (n_s c_s : Nat) (s : List CellD) (w : World) (f_s : SlF encCell w A_s n_s s) (hn : n_s ≤ 1099511627776) :
    Calls Tryz.prog 139 #[.slice A_s n_s c_s, .func (.func 140) #[] #[]] w fun e w' => e = .returned (.bool (decide (0 ≤ findI (fun c => !cellOk c) s))) ∧ St w [] [] w' := by
 refine enter 9 Tryz.func139 rfl Tryz.ntmps139 rfl rfl ?_
 have hs1 := St.init w
 refine WC.r1 hs1 [] rfl (WC.sr (WL.r 2 hs1 [] rfl (WL.cl Tryz.call164 rfl (k9_ _ _ _ _ _ (SlF.st0 f_s hs1) ?_) ?_)))
 · first | assumption | rfl | omega
 rintro _ whs2 ⟨rfl, hs2⟩
 replace hs2 := hs1.call0 hs2
 refine ⟨_, rfl, WL.r 2 hs2 [] rfl (WL.nil (WC.ret (rtv rfl rfl hs2 ?_)))⟩
 rfl
theorem k11_ (A_l : Option Addr) (n_l c_l : Nat) (l : List CellD) (w : World) (f_l : SlF encCell w A_l n_l l) (hn : n_l ≤ 1099511627776) :
    Calls Tryz.prog 105 #[.slice A_l n_l c_l] w fun e w' => e = .returned (.bool (cellsOk l)) ∧ St w [] [] w' := by
 refine enter 6 Tryz.func105 rfl Tryz.ntmps105 rfl rfl ?_
 have hs1 := St.init w
 refine WC.r1 hs1 [] rfl (WC.sr (WL.r 1 hs1 [] rfl (WL.cl Tryz.call139 rfl (k10_ _ _ _ _ _ (SlF.st0 f_l hs1) ?_) ?_)))
 · first | assumption | rfl | omega
 rintro _ whs2 ⟨rfl, hs2⟩
 replace hs2 := hs1.call0 hs2
 refine ⟨_, rfl, WL.r 2 hs2 [] rfl (WL.nil (WC.ret (rtv rfl rfl hs2 ?_)))⟩
 rw [cellsOk_find]
theorem k12_ (a_Fg : Int) (a_Bg : Int) (a_Bold : Bool) (a_Under : Bool) (a_Turn : Bool) (w : World) :
    Calls Tryz.prog 9 #[.agg #[i64 a_Fg, i64 a_Bg, .bool a_Bold, .bool a_Under, .bool a_Turn]] w fun e w' => e = .returned (.int .i64 (attrNum ⟨a_Fg, a_Bg, a_Bold, a_Under, a_Turn⟩)) ∧ St w [] [] w' := by
 refine enter 36 Tryz.func9 rfl Tryz.ntmps9 rfl rfl ?_
 have hs1 := St.init w
 refine WC.sr (WL.bx hs1 rfl (fun b2 _ hs3 => WL.r 1 hs3 [] rfl (WL.nil (WC.seq (fun K4 hK4 => WC.sr (WL.r 1 hs3 [0] rfl (WL.cl Tryz.call10 rfl (k4_ _ _ _ _ _ _) ?_)))))))
 rintro _ whs5 ⟨rfl, hs5⟩
 replace hs5 := hs3.call0 hs5
 refine ⟨_, rfl, WL.r 1 hs5 [] rfl (WL.nil (WC.cq rfl (fun h6 qh6 => ?_) (fun h6 qh6 => ?_)))⟩
 ·have hok : attrOk a_Fg a_Bg = false := by simpa using qh6
  refine WC.r1 hs5 [] rfl (WC.ret (tkR ?_))
  clear hK4
  refine rtv rfl rfl hs5 ?_
  simp [attrNum, hok]
 have hok : attrOk a_Fg a_Bg = true := by simpa using qh6
 have hok2 := hok
 simp [attrOk, within] at hok2
 refine WC.skip (hK4 _ _ ?_)
 refine WC.rr tbk hs5 [0, 0] rfl ⟨by first | omega | (show (0 : Int) ≤ 1 * 2 ^ i; omega) | (show (1 * 2 ^ i : Int) ≤ _; omega), by first | omega | (show (0 : Int) ≤ 1 * 2 ^ i; omega) | (show (1 * 2 ^ i : Int) ≤ _; omega), rfl, by first | omega | (show (0 : Int) ≤ 1 * 2 ^ i; omega) | (show (1 * 2 ^ i : Int) ≤ _; omega), rfl, trivial⟩ (WC.seq (fun K7 hK7 => WC.sr (WL.r 6 hs5 [0, 0, 0] rfl (WL.buildF (F := encT) hs5 ([a_Bold, a_Under, a_Turn]) Tryz.runUnderlying63 Tryz.sizeOf4 Tryz.zeroValue4 rfl rfl rfl rfl rfl rfl rfl rfl rfl rfl rfl rfl (fun A11 c12 L8 whs9 hs9 ho10 => ?_)))))
 replace hs9 := St.back [_] hs9
 refine WL.r 2 hs9 [] rfl (WL.nil (WC.block (WC.lS [2, 8, 22, 23] rfl hs9 (fun k_ f w' => ∃ (i : Nat) (q : Int), k_ = 3 - i ∧ (i ≤ 3) ∧ (q = 72 * a_Bg + 8 * a_Fg + attrBits ⟨a_Fg, a_Bg, a_Bold, a_Under, a_Turn⟩ i) ∧ Sub [(24, .int .i64 i), (3, .int .i64 q)] f) ((fun (i : Nat) (q : Int) => 3 - i) (0) (72 * a_Bg + 8 * a_Fg)) ?_ ?_)))
 ·refine ⟨0, 72 * a_Bg + 8 * a_Fg, rfl, ?_, ?_, ⟨rfl, rfl, trivial⟩⟩
  · exact Nat.zero_le _
  · simp [attrBits]
 clear hs9
 rintro _ f w ⟨i, q, rfl, p0, p1, hG⟩ hF hs13
 refine WC.sub _ (hG.app hF) ?_
 clear hG hF
 have hbit : 0 ≤ attrBits ⟨a_Fg, a_Bg, a_Bold, a_Under, a_Turn⟩ i ∧ attrBits ⟨a_Fg, a_Bg, a_Bold, a_Under, a_Turn⟩ i ≤ 7 := by unfold attrBits; (repeat' split) <;> omega
 refine WC.r1 hs13 [] rfl (WC.seq (fun K14 hK14 => ?_))
 refine WC.cD rfl (fun qh15 => ?_) (fun qh15 => ?_)
 ·simp only [List.length_cons, List.length_nil] at qh15
  have hp2 : (1 * 2 ^ i : Int) = 1 ∨ (1 * 2 ^ i : Int) = 2 ∨ (1 * 2 ^ i : Int) = 4 := by
    rcases i with _ | _ | _ | i
    · exact Or.inl rfl
    · exact Or.inr (Or.inl rfl)
    · exact Or.inr (Or.inr rfl)
    · omega
  refine WC.skip (hK14 _ _ (WC.seq (fun K16 hK16 => WC.block (WC.sr (WL.r 1 hs13 [] rfl ?_)))))
  refine WL.val rfl rfl rfl (Run.idxN Tryz.runUnderlying63 Tryz.sizeOf4 rfl rfl rfl ?_ ?_ ?_) ?_
  · exact SlF.some_ (SlF.ofOwn ho10 (hs13.ow L8))
  · simp only [List.length_cons, List.length_nil] at *; omega
  · simp only [List.length_cons, List.length_nil] at *; omega
  refine WL.val rfl rfl rfl (Run.load Tryz.isAgg4 rfl rfl (SlF.one1 (SlF.ofOwn ho10 (hs13.ow L8)) ?_ rfl)) ?_
  · simp only [List.length_cons, List.length_nil] at *; omega
  refine WL.r 2 hs13 [] rfl (WL.nil (WC.r1 hs13 [] rfl (WC.cq rfl (fun h17 qh17 => ?_) (fun h17 qh17 => ?_))))
  ·refine WC.region (WL.r 2 hs13 [] rfl (WL.val rfl rfl rfl (Run.shl rfl rfl rfl ?_ ?_ ?_) ?_))
   · first | omega | (show (0 : Int) ≤ 1 * 2 ^ i; omega) | (show (1 * 2 ^ i : Int) ≤ _; omega)
   · first | omega | (show (0 : Int) ≤ 1 * 2 ^ i; omega) | (show (1 * 2 ^ i : Int) ≤ _; omega)
   · show In64 (1 * 2 ^ i); constructor <;> omega
   refine WL.val rfl rfl rfl (Run.or rfl rfl rfl ?_ ?_ ?_ ?_) ?_
   · first | omega | (show (0 : Int) ≤ 1 * 2 ^ i; omega) | (show (1 * 2 ^ i : Int) ≤ _; omega)
   · first | omega | (show (0 : Int) ≤ 1 * 2 ^ i; omega) | (show (1 * 2 ^ i : Int) ≤ _; omega)
   · first | omega | (show (0 : Int) ≤ 1 * 2 ^ i; omega) | (show (1 * 2 ^ i : Int) ≤ _; omega)
   · first | omega | (show (0 : Int) ≤ 1 * 2 ^ i; omega) | (show (1 * 2 ^ i : Int) ≤ _; omega)
   refine WL.r 1 hs13 [] rfl (WL.nil (hK16 _ _ (WC.region ?_)))
   refine WL.run tbk 2 hs13 [] rfl ⟨by first | omega | (show (0 : Int) ≤ 1 * 2 ^ i; omega) | (show (1 * 2 ^ i : Int) ≤ _; omega), trivial⟩ (WL.nil (tkN (⟨sbF rfl, hs13, _, ?_, i + 1, _, rfl, ?_, ?_, ⟨rfl, rfl, trivial⟩⟩)))
   · omega
   · omega
   · first | exact attrBits_set hok2.1.1 hok2.2.1 p1 (by omega) qh17 | (rw [attrBits_skip (i := i) (by omega) qh17]; exact p1)
  refine WC.skip (hK16 _ _ (WC.region ?_))
  refine WL.run tbk 2 hs13 [] rfl ⟨by first | omega | (show (0 : Int) ≤ 1 * 2 ^ i; omega) | (show (1 * 2 ^ i : Int) ≤ _; omega), trivial⟩ (WL.nil (tkN (⟨sbF rfl, hs13, _, ?_, i + 1, _, rfl, ?_, ?_, ⟨rfl, rfl, trivial⟩⟩)))
  · omega
  · omega
  · first | exact attrBits_set hok2.1.1 hok2.2.1 p1 (by omega) qh17 | (rw [attrBits_skip (i := i) (by omega) qh17]; exact p1)
 refine WC.exit (hK7 _ _ (WC.r1 hs13 [] rfl (WC.ret (rtv rfl rfl hs13 ?_))))
 rw [attrNum_bits hok]; simp only [List.length_cons, List.length_nil] at *; rw [p1, show i = 3 from by omega]
theorem inf3 : Tryz.prog.info? 3 = some Tryz.t3 := by kernel_rfl
theorem inf5 : Tryz.prog.info? 5 = some Tryz.t5 := by kernel_rfl
theorem k13_ (A_b : Option Addr) (n_b c_b : Nat) (b : List UInt8) (w : World) (f_b : SlF encB w A_b n_b b) (hn : n_b ≤ 2) :
    Calls Tryz.prog 101 #[.slice A_b n_b c_b] w fun e w' => e = .returned (.tuple #[.int .i64 (tlV b : Nat), .bool (tlOk b)]) ∧ St w [] [] w' := by
 have hbl := f_b.len
 refine enter 24 Tryz.func101 rfl Tryz.ntmps101 rfl rfl ?_
 have hs1 := St.init w
 refine WC.r1 hs1 [] rfl (WC.r1 hs1 [] rfl (WC.seq (fun K2 hK2 => WC.r1 hs1 [] rfl (WC.block ?_))))
 refine WC.lS [7, 8] rfl hs1 (fun k_ f w' => ∃ (i : Nat), k_ = n_b - i ∧ (i ≤ n_b) ∧ (tlOk (b.take i) = true) ∧ Sub [(9, .int .i64 i), (4, .int .i64 (tlN (b.take i) : Nat))] f) ((fun (i : Nat) => n_b - i) (0)) ?_ ?_
 ·refine ⟨0, rfl, ?_, ?_, ⟨rfl, ?_, trivial⟩⟩
  · exact Nat.zero_le _
  · rfl
  · rfl
 clear hs1
 rintro _ f w ⟨i, rfl, p0, p1, hG⟩ hF hs3
 refine WC.sub _ (hG.app hF) ?_
 clear hG hF
 have hb_ := tlN_bnd (l := b.take i) (by rw [List.length_take]; omega)
 simp only [List.length_take] at hb_
 refine WC.r1 hs3 [] rfl (WC.seq (fun K4 hK4 => ?_))
 refine WC.cD rfl (fun qh5 => ?_) (fun qh5 => ?_)
 ·refine WC.skip (hK4 _ _ (WC.seq (fun K6 hK6 => WC.block (WC.sr ?_))))
  refine WL.val rfl rfl rfl (Run.idxN Tryz.runUnderlying22 Tryz.sizeOf5 rfl rfl rfl ?_ ?_ ?_) ?_
  · exact SlF.some_ (SlF.st0 f_b hs3)
  · omega
  · omega
  refine WL.val rfl rfl rfl (Run.load Tryz.isAgg5 rfl rfl (SlF.one1 (SlF.st0 f_b hs3) ?_ rfl)) ?_
  · omega
  refine WL.r 1 hs3 [] rfl (WL.nil (WC.seq (fun K7 hK7 => WC.sr (WL.r 1 hs3 [] rfl ?_))))
  refine WL.val rfl rfl rfl (Run.quoB 64 rfl rfl rfl ?_ ?_) ?_
  · decide
  · decide
  refine WL.r 1 hs3 [] rfl (WL.nil (WC.cN rfl (fun qh8 => ?_) (fun qh8 => ?_)))
  ·refine WC.r1 hs3 [] rfl (WC.ret (tkR (ibR (tkR (tkR (ibR (tkR ?_)))))))
   clear hK7 hK6 hK2
   refine retV2 rfl (resV.tmp rfl) (resV.tmp rfl) (⟨congrArg Ending.returned ?_, hs3.nil⟩)
   simp only [u8_div] at qh8
   have hbad := tlOk_bad (l := b) (i := i) (by omega) (by omega)
   rw [hbad, show tlV b = 0 from if_neg (by rw [hbad]; decide)]; rfl
  refine WC.skip (hK7 _ _ (WC.region (WL.r 3 hs3 [] rfl ?_)))
  refine WL.val rfl rfl rfl (Run.remB 64 rfl rfl rfl ?_ ?_) ?_
  · decide
  · decide
  refine WL.run tbk 3 hs3 [] rfl ⟨?_, (u8_in _), trivial⟩ ?_
  · rw [u8_mod]; constructor <;> omega
  refine WL.nil (hK6 _ _ (WC.region (WL.r 2 hs3 [] rfl (WL.nil (tkN ?_)))))
  refine ⟨sbF rfl, hs3, _, ?_, i + 1, rfl, ?_, ?_, ⟨rfl, ?_, trivial⟩⟩
  · omega
  · omega
  · simp only [u8_div] at qh8; rw [tlOk_take (by omega), p1, Bool.true_and, decide_eq_true_eq]; omega
  · refine congrArg some (congrArg (Value.int _) ?_); rw [tlN_take (by omega), u8_mod]; omega
 refine WC.exit (hK2 _ _ (WC.r1 hs3 [] rfl (WC.ret (retV2 rfl (resV.tmp rfl) (resV.tmp rfl) (⟨congrArg Ending.returned ?_, hs3.nil⟩)))))
 have ht : b.take i = b := List.take_of_length_le (by omega)
 rw [ht] at p1
 rw [p1, ht, show tlV b = tlN b from if_pos p1]
theorem k14_ (r : Int) (w : World) :
    Calls Tryz.prog 144 #[i64 r] w fun e w' => ∃ A c L1, e = .returned (.slice A (runeB r).length c) ∧ St w [] L1 w' ∧ OwnF encB 5 (.slice A (runeB r).length c) (runeB r) L1 := by
 refine enter 39 Tryz.func144 rfl Tryz.ntmps144 rfl rfl ?_
 have hs1 := St.init w
 refine WC.r1 hs1 [] rfl (WC.seq (fun K2 hK2 => WC.block (WC.sr (WL.r 1 hs1 [] rfl (WL.cl Tryz.call37 rfl (k2_ _ _) ?_)))))
 rintro _ whs3 ⟨rfl, hs3⟩
 replace hs3 := hs1.call0 hs3
 refine ⟨_, rfl, WL.r 2 hs3 [] rfl (WL.nil (WC.cq rfl (fun h4 qh4 => ?_) (fun h4 qh4 => ?_)))⟩
 ·have hsh : shows r = false := by simpa using qh4
  refine WC.r1 hs3 [] rfl (WC.ret (ibR (tkR ?_)))
  clear hK2
  refine retV1 rfl (resV.tmp rfl) ?_
  have hx_ := OwnF.eqOf (xs := runeB r) (OwnF.nil encB 5) (by simp [runeB, hsh])
  rw [← hx_]
  exact ⟨_, _, _, rfl, hs3.nil, (OwnF.nil encB 5)⟩
 have hsh : shows r = true := by simpa using qh4
 have hsi := shows_iff.1 hsh
 refine WC.r1 hs3 [] rfl (WC.cD rfl (fun qh5 => ?_) (fun qh5 => ?_))
 ·refine WC.sr (WL.r 2 hs3 [] rfl (WL.buildF (F := encB) hs3 ([ub r]) Tryz.runUnderlying22 Tryz.sizeOf5 Tryz.zeroValue5 rfl rfl rfl rfl rfl rfl rfl rfl rfl rfl rfl rfl (fun A9 c10 L6 whs7 hs7 ho8 => WL.r 1 hs7 [] rfl (WL.nil (WC.ret (ibR (tkR ?_)))))))
  clear hK2
  refine retV1 rfl (resV.tmp rfl) ?_
  have hx_ := OwnF.eqOf (xs := runeB r) ho8 (by unfold runeB; rw [hsh, if_neg (by decide), if_pos (by omega)])
  rw [← hx_]
  first | exact ⟨_, _, _, rfl, (St.keep1 hs7), ho8⟩ | exact ⟨A9, c10, _, by rw [OwnF.len_ ho8], (St.keep1 hs7), by rw [OwnF.len_ ho8]; exact ho8⟩
 refine WC.r1 hs3 [] rfl (WC.cD rfl (fun qh11 => ?_) (fun qh11 => ?_))
 ·refine WC.sr (WL.r 1 hs3 [] rfl (WL.val rfl rfl rfl (Run.quo rfl rfl rfl ?_ ?_ ?_) ?_))
  · omega
  · omega
  · omega
  refine WL.r 3 hs3 [] rfl (WL.val rfl rfl rfl (Run.rem rfl rfl rfl ?_ ?_) ?_)
  · omega
  · omega
  refine WL.r 2 hs3 [] rfl (WL.buildF (F := encB) hs3 ([ub (192 + r / 64), ub (128 + r % 64)]) Tryz.runUnderlying22 Tryz.sizeOf5 Tryz.zeroValue5 rfl rfl rfl rfl rfl rfl rfl rfl rfl rfl rfl rfl (fun A15 c16 L12 whs13 hs13 ho14 => WL.r 1 hs13 [] rfl (WL.nil (WC.ret (ibR (tkR ?_))))))
  clear hK2
  refine retV1 rfl (resV.tmp rfl) ?_
  have hx_ := OwnF.eqOf (xs := runeB r) ho14 (by unfold runeB; rw [hsh, if_neg (by decide), if_neg (by omega), if_pos (by omega)])
  rw [← hx_]
  first | exact ⟨_, _, _, rfl, (St.keep1 hs13), ho14⟩ | exact ⟨A15, c16, _, by rw [OwnF.len_ ho14], (St.keep1 hs13), by rw [OwnF.len_ ho14]; exact ho14⟩
 refine WC.skip (hK2 _ _ (WC.sr (WL.r 1 hs3 [] rfl ?_)))
 refine WL.val rfl rfl rfl (Run.quo rfl rfl rfl ?_ ?_ ?_) ?_
 · omega
 · omega
 · omega
 refine WL.r 3 hs3 [] rfl (WL.val rfl rfl rfl (Run.quo rfl rfl rfl ?_ ?_ ?_) ?_)
 · omega
 · omega
 · omega
 refine WL.val rfl rfl rfl (Run.rem rfl rfl rfl ?_ ?_) ?_
 · omega
 · omega
 refine WL.r 3 hs3 [] rfl (WL.val rfl rfl rfl (Run.rem rfl rfl rfl ?_ ?_) ?_)
 · omega
 · omega
 refine WL.r 2 hs3 [] rfl (WL.buildF (F := encB) hs3 ([ub (224 + r / 4096), ub (128 + r / 64 % 64), ub (128 + r % 64)]) Tryz.runUnderlying22 Tryz.sizeOf5 Tryz.zeroValue5 rfl rfl rfl rfl rfl rfl rfl rfl rfl rfl rfl rfl (fun A20 c21 L17 whs18 hs18 ho19 => WL.r 1 hs18 [] rfl (WL.nil (WC.ret (retV1 rfl (resV.tmp rfl) ?_)))))
 have hx_ := OwnF.eqOf (xs := runeB r) ho19 (by unfold runeB; rw [hsh, if_neg (by decide), if_neg (by omega), if_neg (by omega)])
 rw [← hx_]
 first | exact ⟨_, _, _, rfl, (St.keep1 hs18), ho19⟩ | exact ⟨A20, c21, _, by rw [OwnF.len_ ho19], (St.keep1 hs18), by rw [OwnF.len_ ho19]; exact ho19⟩
theorem k15_ (r : Int) (w : World) :
    Calls Tryz.prog 52 #[i64 r] w fun e w' => ∃ A c L1, e = .returned (.slice A (runeB r).length c) ∧ St w [] L1 w' ∧ OwnF encB 5 (.slice A (runeB r).length c) (runeB r) L1 := by
 refine enter 36 Tryz.func52 rfl Tryz.ntmps52 rfl rfl ?_
 have hs1 := St.init w
 refine WC.r1 hs1 [] rfl (WC.seq (fun K2 hK2 => WC.sr (WL.r 1 hs1 [] rfl (WL.cl Tryz.call88 rfl (k3_ _ _) ?_))))
 rintro _ whs3 ⟨rfl, hs3⟩
 replace hs3 := hs1.call0 hs3
 refine ⟨_, rfl, WL.r 1 hs3 [] rfl (WL.nil (WC.cq rfl (fun h4 qh4 => ?_) (fun h4 qh4 => ?_)))⟩
 ·have hsh : shows r = false := by simpa using qh4
  refine WC.r1 hs3 [] rfl (WC.ret (tkR ?_))
  clear hK2
  refine retV1 rfl (resV.tmp rfl) ?_
  have hx_ := OwnF.eqOf (xs := runeB r) (OwnF.nil encB 5) (by simp [runeB, hsh])
  rw [← hx_]
  exact ⟨_, _, _, rfl, hs3.nil, (OwnF.nil encB 5)⟩
 have hsh : shows r = true := by simpa using qh4
 have hsi := shows_iff.1 hsh
 refine WC.skip (hK2 _ _ (WC.seq (fun K5 hK5 => WC.r1 hs3 [] rfl ?_)))
 refine WC.cD rfl (fun qh6 => ?_) (fun qh6 => ?_)
 ·refine WC.sr (WL.r 2 hs3 [] rfl (WL.buildF (F := encB) hs3 ([ub r]) Tryz.runUnderlying22 Tryz.sizeOf5 Tryz.zeroValue5 rfl rfl rfl rfl rfl rfl rfl rfl rfl rfl rfl rfl (fun A10 c11 L7 whs8 hs8 ho9 => WL.r 1 hs8 [] rfl (WL.nil (WC.ret (tkR ?_))))))
  clear hK5
  refine retV1 rfl (resV.tmp rfl) ?_
  have hx_ := OwnF.eqOf (xs := runeB r) ho9 (by unfold runeB; rw [hsh, if_neg (by decide), if_pos (by omega)])
  rw [← hx_]
  first | exact ⟨_, _, _, rfl, (St.keep1 hs8), ho9⟩ | exact ⟨A10, c11, _, by rw [OwnF.len_ ho9], (St.keep1 hs8), by rw [OwnF.len_ ho9]; exact ho9⟩
 refine WC.skip (hK5 _ _ (WC.seq (fun K12 hK12 => WC.r1 hs3 [] rfl ?_)))
 refine WC.cD rfl (fun qh13 => ?_) (fun qh13 => ?_)
 ·refine WC.sr (WL.r 1 hs3 [] rfl (WL.val rfl rfl rfl (Run.quo rfl rfl rfl ?_ ?_ ?_) ?_))
  · omega
  · omega
  · omega
  refine WL.r 3 hs3 [] rfl (WL.val rfl rfl rfl (Run.rem rfl rfl rfl ?_ ?_) ?_)
  · omega
  · omega
  refine WL.r 2 hs3 [] rfl (WL.buildF (F := encB) hs3 ([ub (192 + r / 64), ub (128 + r % 64)]) Tryz.runUnderlying22 Tryz.sizeOf5 Tryz.zeroValue5 rfl rfl rfl rfl rfl rfl rfl rfl rfl rfl rfl rfl (fun A17 c18 L14 whs15 hs15 ho16 => WL.r 1 hs15 [] rfl (WL.nil (WC.ret (tkR ?_)))))
  clear hK12
  refine retV1 rfl (resV.tmp rfl) ?_
  have hx_ := OwnF.eqOf (xs := runeB r) ho16 (by unfold runeB; rw [hsh, if_neg (by decide), if_neg (by omega), if_pos (by omega)])
  rw [← hx_]
  first | exact ⟨_, _, _, rfl, (St.keep1 hs15), ho16⟩ | exact ⟨A17, c18, _, by rw [OwnF.len_ ho16], (St.keep1 hs15), by rw [OwnF.len_ ho16]; exact ho16⟩
 refine WC.skip (hK12 _ _ (WC.sr (WL.r 1 hs3 [] rfl ?_)))
 refine WL.val rfl rfl rfl (Run.quo rfl rfl rfl ?_ ?_ ?_) ?_
 · omega
 · omega
 · omega
 refine WL.r 3 hs3 [] rfl (WL.val rfl rfl rfl (Run.quo rfl rfl rfl ?_ ?_ ?_) ?_)
 · omega
 · omega
 · omega
 refine WL.val rfl rfl rfl (Run.rem rfl rfl rfl ?_ ?_) ?_
 · omega
 · omega
 refine WL.r 3 hs3 [] rfl (WL.val rfl rfl rfl (Run.rem rfl rfl rfl ?_ ?_) ?_)
 · omega
 · omega
 refine WL.r 2 hs3 [] rfl (WL.buildF (F := encB) hs3 ([ub (224 + r / 4096), ub (128 + r / 64 % 64), ub (128 + r % 64)]) Tryz.runUnderlying22 Tryz.sizeOf5 Tryz.zeroValue5 rfl rfl rfl rfl rfl rfl rfl rfl rfl rfl rfl rfl (fun A22 c23 L19 whs20 hs20 ho21 => WL.r 1 hs20 [] rfl (WL.nil (WC.ret (retV1 rfl (resV.tmp rfl) ?_)))))
 have hx_ := OwnF.eqOf (xs := runeB r) ho21 (by unfold runeB; rw [hsh, if_neg (by decide), if_neg (by omega), if_neg (by omega)])
 rw [← hx_]
 first | exact ⟨_, _, _, rfl, (St.keep1 hs20), ho21⟩ | exact ⟨A22, c23, _, by rw [OwnF.len_ ho21], (St.keep1 hs20), by rw [OwnF.len_ ho21]; exact ho21⟩
theorem k16_ (A_a : Option Addr) (n_a c_a : Nat) (a : List UInt8) (A_b : Option Addr) (n_b c_b : Nat) (b : List UInt8) (w : World) (f_a : SlF encB w A_a n_a a) (f_b : SlF encB w A_b n_b b) (hn : n_a ≤ 1099511627776) :
    Calls Tryz.prog 143 #[.slice A_a n_a c_a, .slice A_b n_b c_b] w fun e w' => e = .returned (.bool (decide (a = b))) ∧ St w [] [] w' := by
 have hla := f_a.len
 have hlb := f_b.len
 refine enter 26 Tryz.func143 rfl Tryz.ntmps143 rfl rfl ?_
 have hs1 := St.init w
 refine WC.r1 hs1 [] rfl (WC.seq (fun K2 hK2 => WC.r1 hs1 [] rfl ?_))
 refine WC.cq rfl (fun h3 qh3 => ?_) (fun h3 qh3 => ?_)
 ·refine WC.r1 hs1 [] rfl (WC.ret (tkR ?_))
  clear hK2
  refine rtv rfl rfl hs1 ?_
  refine congrArg Value.bool ?_; symm; rw [decide_eq_false_iff_not]; intro he; subst he; omega
 refine WC.skip (hK2 _ _ (WC.seq (fun K4 hK4 => WC.r1 hs1 [] rfl (WC.block ?_))))
 refine WC.lS [0, 1, 10, 12] rfl hs1 (fun k_ f w' => ∃ (i : Nat), k_ = n_a - i ∧ (i ≤ n_a) ∧ (∀ j, j < i → gat encB a j = gat encB b j) ∧ Sub [(13, .int .i64 i)] f) ((fun (i : Nat) => n_a - i) (0)) ?_ ?_
 ·refine ⟨0, rfl, ?_, ?_, ⟨rfl, trivial⟩⟩
  · exact Nat.zero_le _
  · exact fun j hj => absurd hj (by omega)
 clear hs1
 rintro _ f w ⟨i, rfl, p0, p1, hG⟩ hF hs5
 refine WC.sub _ (hG.app hF) ?_
 clear hG hF
 refine WC.r1 hs5 [] rfl (WC.seq (fun K6 hK6 => ?_))
 refine WC.cq rfl (fun h7 qh7 => ?_) (fun h7 qh7 => ?_)
 ·refine WC.skip (hK6 _ _ (WC.seq (fun K8 hK8 => WC.block (WC.r1 hs5 [] rfl (WC.sq1 hs5 (WQ.r 2 [] rfl ?_))))))
  refine WQ.val rfl rfl rfl (fun w_ hs_ => (Run.idxN Tryz.runUnderlying22 Tryz.sizeOf5 rfl rfl rfl ?_ ?_ ?_)) ?_
  · exact SlF.some_ (SlF.st0 f_a (hs_ : St _ _ _ _))
  · omega
  · omega
  refine WQ.val rfl rfl rfl (fun w_ hs_ => (Run.load Tryz.isAgg5 rfl rfl (SlF.one1 (SlF.st0 f_a (hs_ : St _ _ _ _)) ?_ rfl))) ?_
  · omega
  refine WQ.r 2 [] rfl ?_
  refine WQ.val rfl rfl rfl (fun w_ hs_ => (Run.idxN Tryz.runUnderlying22 Tryz.sizeOf5 rfl rfl rfl ?_ ?_ ?_)) ?_
  · exact SlF.some_ (SlF.st0 f_b (hs_ : St _ _ _ _))
  · omega
  · omega
  refine WQ.val rfl rfl rfl (fun w_ hs_ => (Run.load Tryz.isAgg5 rfl rfl (SlF.one1 (SlF.st0 f_b (hs_ : St _ _ _ _)) ?_ rfl))) ?_
  · omega
  refine WQ.r 1 [] rfl (WQ.nil (fun _ (hs9 : St _ _ _ _) => ?_))
  refine WC.cq rfl (fun h10 qh10 => ?_) (fun h10 qh10 => ?_)
  ·refine WC.r1 hs9 [] rfl (WC.ret (ibR (tkR (tkR (ibR (tkR ?_))))))
   clear hK8 hK4
   refine rtv rfl rfl hs9 ?_
   refine congrArg Value.bool ?_; symm; rw [decide_eq_false_iff_not]; intro he; subst he; simp at h10
  refine WC.skip (hK8 _ _ (WC.region (WL.r 2 hs9 [] rfl (WL.nil (tkN ?_)))))
  refine ⟨sbF rfl, hs9, _, ?_, i + 1, rfl, ?_, ?_, ⟨rfl, trivial⟩⟩
  · omega
  · omega
  · intro j hj; rcases Nat.lt_or_ge j i with h_ | h_
    · exact p1 j h_
    · obtain rfl : j = i := by omega
      exact u8_inj (by simpa using h10)
 refine WC.exit (hK4 _ _ (WC.r1 hs5 [] rfl (WC.ret (rtv rfl rfl hs5 ?_))))
 refine congrArg Value.bool ?_; symm; rw [decide_eq_true_eq]; exact gat_ext (F := encB) (by omega) (fun j hj => p1 j (by omega))
theorem k17_ (A_s : Option Addr) (n_s c_s : Nat) (s : List UInt8) (w : World) (f_s : SlF encB w A_s n_s s) (hn : n_s ≤ 268435456) :
    Calls Tryz.prog 68 #[.slice A_s n_s c_s] w fun e w' => ∃ A c L1, e = .returned (.slice A (s).length c) ∧ St w [] L1 w' ∧ OwnF encB 5 (.slice A (s).length c) (s) L1 := by
 have hl := f_s.len
 refine enter 8 Tryz.func68 rfl Tryz.ntmps68 rfl rfl ?_
 have hs1 := St.init w
 refine WC.r1 hs1 [] rfl (WC.seq (fun K2 hK2 => WC.sr (WL.r 1 hs1 [] rfl (WL.val rfl rfl rfl (Run.eqlNil Tryz.underlying22 rfl rfl rfl) (WL.nil ?_)))))
 refine WC.cq rfl (fun h3 qh3 => ?_) (fun h3 qh3 => ?_)
 ·obtain rfl : A_s = none := by simpa using qh3
  have h0 : n_s = 0 := SlF.none_ f_s
  have hs : s = [] := List.eq_nil_of_length_eq_zero (by omega)
  refine WC.r1 hs1 [] rfl (WC.ret (tkR ?_))
  clear hK2
  refine retV1 rfl (resV.tmp rfl) ?_
  have hx_ := OwnF.eqOf (xs := s) (OwnF.nil encB 5) (by rw [hs])
  rw [← hx_]
  exact ⟨_, _, _, rfl, hs1.nil, (OwnF.nil encB 5)⟩
 refine WC.skip (hK2 _ _ (WC.sr (WL.buildF (F := encB) hs1 ([]) Tryz.runUnderlying22 Tryz.sizeOf5 Tryz.zeroValue5 rfl rfl rfl rfl rfl rfl rfl rfl rfl rfl rfl rfl (fun A7 c8 L4 whs5 hs5 ho6 => WL.r 1 hs5 [] rfl ?_))))
 refine WL.appendG hs5 ho6 (SlF.src (SlF.st0 f_s hs5) Tryz.underlying22) Tryz.underlying22 inf5 rfl rfl rfl rfl rfl rfl rfl rfl rfl rfl ?_ (fun A12 c13 L9 whs10 hs10 ho11 => ?_)
 · simp; omega
 refine WL.r 1 hs10 [] rfl (WL.nil (WC.ret (retV1 rfl (resV.tmp rfl) ?_)))
 have hx_ := OwnF.eqOf (xs := s) ho11 (by simp)
 rw [← hx_]
 first | exact ⟨_, _, _, rfl, (St.keep1 hs10), ho11⟩ | exact ⟨A12, c13, _, by rw [OwnF.len_ ho11], (St.keep1 hs10), by rw [OwnF.len_ ho11]; exact ho11⟩
theorem k18_ (A_s : Option Addr) (n_s c_s : Nat) (s : List Int) (w : World) (f_s : SlF encI w A_s n_s s) (hn : n_s ≤ 268435456) :
    Calls Tryz.prog 67 #[.slice A_s n_s c_s] w fun e w' => ∃ A c L1, e = .returned (.slice A (s).length c) ∧ St w [] L1 w' ∧ OwnF encI 3 (.slice A (s).length c) (s) L1 := by
 have hl := f_s.len
 refine enter 8 Tryz.func67 rfl Tryz.ntmps67 rfl rfl ?_
 have hs1 := St.init w
 refine WC.r1 hs1 [] rfl (WC.seq (fun K2 hK2 => WC.sr (WL.r 1 hs1 [] rfl (WL.val rfl rfl rfl (Run.eqlNil Tryz.underlying26 rfl rfl rfl) (WL.nil ?_)))))
 refine WC.cq rfl (fun h3 qh3 => ?_) (fun h3 qh3 => ?_)
 ·obtain rfl : A_s = none := by simpa using qh3
  have h0 : n_s = 0 := SlF.none_ f_s
  have hs : s = [] := List.eq_nil_of_length_eq_zero (by omega)
  refine WC.r1 hs1 [] rfl (WC.ret (tkR ?_))
  clear hK2
  refine retV1 rfl (resV.tmp rfl) ?_
  have hx_ := OwnF.eqOf (xs := s) (OwnF.nil encI 3) (by rw [hs])
  rw [← hx_]
  exact ⟨_, _, _, rfl, hs1.nil, (OwnF.nil encI 3)⟩
 refine WC.skip (hK2 _ _ (WC.sr (WL.buildF (F := encI) hs1 ([]) Tryz.runUnderlying26 Tryz.sizeOf3 Tryz.zeroValue3 rfl rfl rfl rfl rfl rfl rfl rfl rfl rfl rfl rfl (fun A7 c8 L4 whs5 hs5 ho6 => WL.r 1 hs5 [] rfl ?_))))
 refine WL.appendG hs5 ho6 (SlF.src (SlF.st0 f_s hs5) Tryz.underlying26) Tryz.underlying26 inf3 rfl rfl rfl rfl rfl rfl rfl rfl rfl rfl ?_ (fun A12 c13 L9 whs10 hs10 ho11 => ?_)
 · simp; omega
 refine WL.r 1 hs10 [] rfl (WL.nil (WC.ret (retV1 rfl (resV.tmp rfl) ?_)))
 have hx_ := OwnF.eqOf (xs := s) ho11 (by simp)
 rw [← hx_]
 first | exact ⟨_, _, _, rfl, (St.keep1 hs10), ho11⟩ | exact ⟨A12, c13, _, by rw [OwnF.len_ ho11], (St.keep1 hs10), by rw [OwnF.len_ ho11]; exact ho11⟩
theorem k19_ (A_b : Option Addr) (n_b c_b : Nat) (b : List UInt8) (w : World) (f_b : SlF encB w A_b n_b b) (hc : n_b ≤ c_b) (hn : n_b ≤ 549755813888) :
    Calls Tryz.prog 108 #[.slice A_b n_b c_b, i64 0] w fun e w' => e = .returned (.tuple #[.int .i64 (rvN (runeL b)), .int .i64 (rvS (runeL b) : Nat)]) ∧ St w [] [] w' := by
 have hbl := f_b.len
 have hb0 := (gat encB b 0).toNat_lt
 refine enter 72 Tryz.func108 rfl Tryz.ntmps108 rfl rfl ?_
 have hs1 := St.init w
 refine WC.r1 hs1 [] rfl (WC.seq (fun K2 hK2 => WC.sr ?_))
 refine WL.run tbk 4 hs1 [] rfl ⟨by first | omega | (simp only [p6]; omega), trivial⟩ (WL.cl Tryz.call23 rfl (k1_ _ _ _ _) ?_)
 rintro _ whs3 ⟨rfl, hs3⟩
 replace hs3 := hs1.call0 hs3
 refine ⟨_, rfl, WL.r 1 hs3 [] rfl (WL.nil (WC.cq rfl (fun h4 qh4 => ?_) (fun h4 qh4 => ?_)))⟩
 ·refine WC.r1 hs3 [] rfl (WC.ret (tkR ?_))
  clear hK2
  refine retV2 rfl (resV.tmp rfl) (resV.tmp rfl) (⟨congrArg Ending.returned ?_, hs3.nil⟩)
  have h0 : b = [] := List.eq_nil_of_length_eq_zero (by omega)
  subst h0
  rw [runeL_nil]; rfl
 refine WC.skip (hK2 _ _ (WC.sr (WL.r 2 hs3 [] rfl ?_)))
 refine WL.val rfl rfl rfl (Run.idxK (0) Tryz.runUnderlying22 Tryz.sizeOf5 rfl rfl rfl ?_ ?_ ?_) ?_
 · exact SlF.some_ (SlF.st0 f_b hs3)
 · first | omega | (simp only [p6]; omega)
 · first | omega | (simp only [p6]; omega)
 refine WL.val rfl rfl rfl (Run.load Tryz.isAgg5 rfl rfl (SlF.one1 (SlF.st0 f_b hs3) ?_ rfl)) ?_
 · omega
 refine WL.r 3 hs3 [] rfl (WL.nil (WC.seq (fun K5 hK5 => WC.block (WC.sr (WL.r 1 hs3 [] rfl (WL.cl Tryz.call23 rfl (k1_ _ _ _ _) ?_))))))
 rintro _ whs6 ⟨rfl, hs6⟩
 replace hs6 := hs3.call0 hs6
 refine ⟨_, rfl, WL.r 1 hs6 [] rfl (WL.nil (WC.cq rfl (fun h7 qh7 => ?_) (fun h7 qh7 => ?_)))⟩
 ·have hcl : rcls (bat b 0) = 2 := by unfold rcls; rw [if_pos (by simp only [gat, bat] at *; omega)]
  refine WC.region ?_
  refine WL.run tbk 4 hs6 [] rfl ⟨by first | omega | (simp only [p6]; omega), trivial⟩ (WL.nil (hK5 _ _ (WC.seq (fun K8 hK8 => ?_))))
  refine WC.rr tbk hs6 [] rfl ⟨by first | omega | (simp only [p6]; omega), trivial⟩ (WC.cq rfl (fun h9 qh9 => ?_) (fun h9 qh9 => ?_))
  ·refine WC.r1 hs6 [] rfl (WC.ret (tkR ?_))
   clear hK8
   refine retV2 rfl (resV.tmp rfl) (resV.tmp rfl) (⟨congrArg Ending.returned ?_, hs6.nil⟩)
   have hno : runeL b = none := rread_no (by omega) hcl (fun r hr h1 h2 h3 => by
       omega)
   rw [hno]; rfl
  refine WC.skip (hK8 _ _ (WC.sr ?_))
  refine WL.run tbk 6 hs6 [] rfl ⟨by first | omega | (simp only [p6]; omega), by first | omega | (simp only [p6]; omega), trivial⟩ (WL.val rfl rfl rfl (Run.sliceLH (1) (2) Tryz.runUnderlying22 Tryz.sizeOf5 rfl rfl rfl rfl ?_ ?_ ?_) ?_)
  · first | rfl | (first | omega | (simp only [p6]; omega))
  · first | rfl | (first | omega | (simp only [p6]; omega))
  · refine ⟨?_, ?_, ?_⟩ <;> (first | omega | (simp only [p6]; omega))
  refine WL.cl Tryz.call101 rfl (k13_ _ _ _ _ _ (SlF.cutC (lo := 1) (hi := 2) (SlF.st0 f_b hs6) (by refine ⟨?_, ?_, ?_⟩ <;> (first | omega | (simp only [p6]; omega)))) ?_) ?_
  · first | assumption | rfl | omega
  rintro _ whs10 ⟨rfl, hs10⟩
  replace hs10 := hs6.call0 hs10
  refine ⟨_, rfl, WL.r 3 hs10 [] rfl ?_⟩
  have htv := tlV_bnd (l := (b.drop 1).take (2 - 1)) (by rw [List.length_take, List.length_drop]; omega)
  refine WL.r 2 hs10 [] rfl (WL.nil (WC.sr ?_))
  refine WL.run tbk 4 hs10 [] rfl ⟨by first | omega | (simp only [p6]; omega), by first | omega | (simp only [p6]; omega), trivial⟩ (WL.val rfl rfl rfl (Run.shl rfl rfl rfl ?_ ?_ ?_) ?_)
  · first | omega | (simp only [p6]; omega)
  · first | omega | (simp only [p6]; omega)
  · simp only [p6]; constructor <;> omega
  refine WL.r 1 hs10 [] rfl (WL.val rfl rfl rfl (Run.or rfl rfl rfl ?_ ?_ ?_ ?_) ?_)
  · first | omega | (simp only [p6]; omega)
  · first | omega | (simp only [p6]; omega)
  · first | omega | (simp only [p6]; omega)
  · first | omega | (simp only [p6]; omega)
  refine WL.r 1 hs10 [] rfl (WL.nil (WC.seq (fun K11 hK11 => WC.seq (fun K12 hK12 => WC.rH hs10 hs10 (fun _ hs13 => ?_)))))
  refine WH.rn [0, 1, 2] hs13 [] rfl rfl (WH.split 58 rfl (fun g14 => ?_) (fun g14 => ?_))
  ·refine WH.takeSkip 3 rfl (by kernel_rfl) (wantNF rfl g14) rfl rfl hs13 (WH.takeSkip 5 rfl (by kernel_rfl) (wantNF rfl g14) rfl rfl hs13 (WH.takeSkip 6 rfl (by kernel_rfl) (wantNF rfl g14) rfl rfl hs13 (WH.takeSkip 7 rfl (by kernel_rfl) (wantNF rfl g14) rfl rfl hs13 (WH.takeSkip 8 rfl (by kernel_rfl) (wantNF rfl g14) rfl rfl hs13 (WH.takeSkip 9 rfl (by kernel_rfl) (wantNF rfl g14) rfl rfl hs13 (WH.takeSkip 10 rfl (by kernel_rfl) (wantNF rfl g14) rfl rfl hs13 (WH.o1 4 rfl ?_)))))))
   refine WL.skip (wantNF rfl g14) rfl rfl (WL.nil ⟨hs13, WH.o1 11 rfl (WL.skip (wantNF rfl g14) rfl rfl (WL.nil ⟨hs13, WH.takeSkip 12 rfl (by kernel_rfl) (wantNF rfl g14) rfl rfl hs13 ?_⟩))⟩)
   refine WH.take 13 rfl (by kernel_rfl) rfl rfl rfl hs13 (fun w_ hs_ => (Run.pickT rfl rfl g14 rfl)) ?_
   refine WH.dn (hK12 _ _ ?_)
   refine WC.cq rfl (fun h15 qh15 => ?_) (fun h15 qh15 => ?_)
   ·refine WC.r1 hs13 [] rfl (WC.ret (tkR ?_))
    clear hK11
    refine retV2 rfl (resV.tmp rfl) (resV.tmp rfl) (⟨congrArg Ending.returned ?_, hs13.nil⟩)
    have hno : runeL b = none := rread_no (by omega) hcl (fun r hr h1 h2 h3 => by
        have h9 := ‹(!tlOk ((b.drop 1).take (2 - 1))) = true›
        rw [h2] at h9; cases h9)
    rw [hno]; rfl
   refine WC.skip (hK11 _ _ (WC.r1 hs13 [] rfl (WC.ret (retV2 rfl (resV.tmp rfl) (resV.tmp rfl) (⟨congrArg Ending.returned ?_, hs13.nil⟩)))))
   cases h15
  refine WH.rnA (Acts.nil.cons (j := 2) rfl g14) [3, 5, 6, 7, 8, 9] hs13 [] rfl rfl ?_ (hS := ⟨by (first | omega | (simp only [p6]; omega)), trivial⟩)
  refine WH.take 10 rfl (by kernel_rfl) (wantF rfl g14) rfl rfl hs13 (fun w_ hs_ => (Run.sliceLH (0) (2) Tryz.runUnderlying22 Tryz.sizeOf5 rfl rfl rfl rfl ?_ ?_ ?_)) ?_
  · first | rfl | (first | omega | (simp only [p6]; omega))
  · first | rfl | (first | omega | (simp only [p6]; omega))
  · refine ⟨?_, ?_, ?_⟩ <;> (first | omega | (simp only [p6]; omega))
  refine WH.o1 4 rfl (WL.call (wantF rfl g14) rfl rfl (Run.call Tryz.call144 rfl rfl rfl) (k14_ _ _) ?_)
  rintro _ whs16 ⟨A17, c18, L1_19, rfl, hs16, ho20⟩
  replace hs16 := hs13.callF hs16
  refine ⟨_, rfl, WL.nil ⟨(hs16.rm L1_19), WH.o1 11 rfl ?_⟩⟩
  refine WL.call (wantF rfl g14) rfl rfl (Run.call Tryz.call143 rfl rfl rfl) (k16_ _ _ _ _ _ _ _ _ _ (SlF.ofOwn ho20 (hs16.ow L1_19)) (SlF.cutC (lo := 0) (hi := 2) (SlF.st0 f_b hs16) (by refine ⟨?_, ?_, ?_⟩ <;> (first | omega | (simp only [p6]; omega)))) ?_) ?_
  · exact Nat.le_trans (runeB_len _) (by decide)
  rintro _ whs21 ⟨rfl, hs21⟩
  replace hs21 := hs16.call0 hs21
  refine ⟨_, rfl, WL.nil ⟨(hs21.rm L1_19), WH.rnA (Acts.nil.cons (j := 2) rfl g14) [12] (hs21.rm L1_19) [] rfl rfl ?_⟩⟩
  refine WH.take 13 rfl (by kernel_rfl) rfl rfl rfl (hs21.rm L1_19) (fun w_ hs_ => (Run.pick rfl rfl rfl rfl)) ?_
  refine WH.dn (hK12 _ _ ?_)
  refine WC.cq rfl (fun h22 qh22 => ?_) (fun h22 qh22 => ?_)
  ·refine WC.r1 hs21 [] rfl (WC.ret (tkR ?_))
   clear hK11
   refine retV2 rfl (resV.tmp rfl) (resV.tmp rfl) (⟨congrArg Ending.returned ?_, hs21.nil⟩)
   have hrs := rsum_or (a := gat encB b 0) (t := ((b.drop 1).take (2 - 1))) (c := 2) (x := (((gat encB b 0).toNat : Int) - 192) * 2 ^ 6) (.inr (.inl ⟨rfl, by omega, rfl⟩)) (by rw [List.length_take, List.length_drop]; omega)
   have hq9 : (bif !tlOk ((b.drop 1).take (2 - 1)) then true else !decide (runeB (rsum (gat encB b 0) ((b.drop 1).take (2 - 1)) 2) = b.take 2)) = true := by rw [← hrs]; exact h22
   have hno : runeL b = none := rread_no (by omega) hcl (fun r hr h1 h2 h3 => by
       rw [h2] at hq9; subst hr; have h10 : runeB (rsum (gat encB b 0) ((b.drop 1).take (2 - 1)) 2) = b.take 2 := h3; rw [h10, decide_eq_true rfl] at hq9; cases hq9)
   rw [hno]; rfl
  refine WC.skip (hK11 _ _ (WC.r1 hs21 [] rfl (WC.ret (retV2 rfl (resV.tmp rfl) (resV.tmp rfl) (⟨congrArg Ending.returned ?_, hs21.nil⟩)))))
  have hrs := rsum_or (a := gat encB b 0) (t := ((b.drop 1).take (2 - 1))) (c := 2) (x := (((gat encB b 0).toNat : Int) - 192) * 2 ^ 6) (.inr (.inl ⟨rfl, by omega, rfl⟩)) (by rw [List.length_take, List.length_drop]; omega)
  have hq9 : (bif !tlOk ((b.drop 1).take (2 - 1)) then true else !decide (runeB (rsum (gat encB b 0) ((b.drop 1).take (2 - 1)) 2) = b.take 2)) = false := by rw [← hrs]; exact h22
  rcases h11 : tlOk ((b.drop 1).take (2 - 1)) with _ | _ <;> rw [h11] at hq9
  · cases hq9
  have hyes := rread_yes (by omega) hcl (by omega) h11 hrs (by rw [hrs]; by_cases h12 : runeB (rsum (gat encB b 0) ((b.drop 1).take (2 - 1)) 2) = b.take 2; exact h12; rw [decide_eq_false h12] at hq9; cases hq9)
  rw [hyes]; rfl
 refine WC.sr (WL.r 1 hs6 [] rfl (WL.cl Tryz.call23 rfl (k1_ _ _ _ _) ?_))
 rintro _ whs23 ⟨rfl, hs23⟩
 replace hs23 := hs6.call0 hs23
 refine ⟨_, rfl, WL.r 1 hs23 [] rfl (WL.nil (WC.cq rfl (fun h24 qh24 => ?_) (fun h24 qh24 => ?_)))⟩
 ·have hcl : rcls (bat b 0) = 3 := by unfold rcls; rw [if_neg (by simp only [gat, bat] at *; omega), if_pos (by simp only [gat, bat] at *; omega)]
  refine WC.region ?_
  refine WL.run tbk 4 hs23 [] rfl ⟨by first | omega | (simp only [p6]; omega), trivial⟩ (WL.nil (hK5 _ _ (WC.seq (fun K25 hK25 => ?_))))
  refine WC.rr tbk hs23 [] rfl ⟨by first | omega | (simp only [p6]; omega), trivial⟩ (WC.cq rfl (fun h26 qh26 => ?_) (fun h26 qh26 => ?_))
  ·refine WC.r1 hs23 [] rfl (WC.ret (tkR ?_))
   clear hK25
   refine retV2 rfl (resV.tmp rfl) (resV.tmp rfl) (⟨congrArg Ending.returned ?_, hs23.nil⟩)
   have hno : runeL b = none := rread_no (by omega) hcl (fun r hr h1 h2 h3 => by
       omega)
   rw [hno]; rfl
  refine WC.skip (hK25 _ _ (WC.sr ?_))
  refine WL.run tbk 6 hs23 [] rfl ⟨by first | omega | (simp only [p6]; omega), by first | omega | (simp only [p6]; omega), trivial⟩ (WL.val rfl rfl rfl (Run.sliceLH (1) (3) Tryz.runUnderlying22 Tryz.sizeOf5 rfl rfl rfl rfl ?_ ?_ ?_) ?_)
  · first | rfl | (first | omega | (simp only [p6]; omega))
  · first | rfl | (first | omega | (simp only [p6]; omega))
  · refine ⟨?_, ?_, ?_⟩ <;> (first | omega | (simp only [p6]; omega))
  refine WL.cl Tryz.call101 rfl (k13_ _ _ _ _ _ (SlF.cutC (lo := 1) (hi := 3) (SlF.st0 f_b hs23) (by refine ⟨?_, ?_, ?_⟩ <;> (first | omega | (simp only [p6]; omega)))) ?_) ?_
  · first | assumption | rfl | omega
  rintro _ whs27 ⟨rfl, hs27⟩
  replace hs27 := hs23.call0 hs27
  refine ⟨_, rfl, WL.r 3 hs27 [] rfl ?_⟩
  have htv := tlV_bnd (l := (b.drop 1).take (3 - 1)) (by rw [List.length_take, List.length_drop]; omega)
  refine WL.r 2 hs27 [] rfl (WL.nil (WC.sr ?_))
  refine WL.run tbk 4 hs27 [] rfl ⟨by first | omega | (simp only [p6]; omega), by first | omega | (simp only [p6]; omega), trivial⟩ (WL.val rfl rfl rfl (Run.shl rfl rfl rfl ?_ ?_ ?_) ?_)
  · first | omega | (simp only [p6]; omega)
  · first | omega | (simp only [p6]; omega)
  · simp only [p6]; constructor <;> omega
  refine WL.r 1 hs27 [] rfl (WL.val rfl rfl rfl (Run.or rfl rfl rfl ?_ ?_ ?_ ?_) ?_)
  · first | omega | (simp only [p6]; omega)
  · first | omega | (simp only [p6]; omega)
  · first | omega | (simp only [p6]; omega)
  · first | omega | (simp only [p6]; omega)
  refine WL.r 1 hs27 [] rfl (WL.nil (WC.seq (fun K28 hK28 => WC.seq (fun K29 hK29 => WC.rH hs27 hs27 (fun _ hs30 => ?_)))))
  refine WH.rn [0, 1, 2] hs30 [] rfl rfl (WH.split 58 rfl (fun g31 => ?_) (fun g31 => ?_))
  ·refine WH.takeSkip 3 rfl (by kernel_rfl) (wantNF rfl g31) rfl rfl hs30 (WH.takeSkip 5 rfl (by kernel_rfl) (wantNF rfl g31) rfl rfl hs30 (WH.takeSkip 6 rfl (by kernel_rfl) (wantNF rfl g31) rfl rfl hs30 (WH.takeSkip 7 rfl (by kernel_rfl) (wantNF rfl g31) rfl rfl hs30 (WH.takeSkip 8 rfl (by kernel_rfl) (wantNF rfl g31) rfl rfl hs30 (WH.takeSkip 9 rfl (by kernel_rfl) (wantNF rfl g31) rfl rfl hs30 (WH.takeSkip 10 rfl (by kernel_rfl) (wantNF rfl g31) rfl rfl hs30 (WH.o1 4 rfl ?_)))))))
   refine WL.skip (wantNF rfl g31) rfl rfl (WL.nil ⟨hs30, WH.o1 11 rfl (WL.skip (wantNF rfl g31) rfl rfl (WL.nil ⟨hs30, WH.takeSkip 12 rfl (by kernel_rfl) (wantNF rfl g31) rfl rfl hs30 ?_⟩))⟩)
   refine WH.take 13 rfl (by kernel_rfl) rfl rfl rfl hs30 (fun w_ hs_ => (Run.pickT rfl rfl g31 rfl)) ?_
   refine WH.dn (hK29 _ _ ?_)
   refine WC.cq rfl (fun h32 qh32 => ?_) (fun h32 qh32 => ?_)
   ·refine WC.r1 hs30 [] rfl (WC.ret (tkR ?_))
    clear hK28
    refine retV2 rfl (resV.tmp rfl) (resV.tmp rfl) (⟨congrArg Ending.returned ?_, hs30.nil⟩)
    have hno : runeL b = none := rread_no (by omega) hcl (fun r hr h1 h2 h3 => by
        have h9 := ‹(!tlOk ((b.drop 1).take (3 - 1))) = true›
        rw [h2] at h9; cases h9)
    rw [hno]; rfl
   refine WC.skip (hK28 _ _ (WC.r1 hs30 [] rfl (WC.ret (retV2 rfl (resV.tmp rfl) (resV.tmp rfl) (⟨congrArg Ending.returned ?_, hs30.nil⟩)))))
   cases h32
  refine WH.rnA (Acts.nil.cons (j := 2) rfl g31) [3, 5, 6, 7, 8, 9] hs30 [] rfl rfl ?_ (hS := ⟨by (first | omega | (simp only [p6]; omega)), trivial⟩)
  refine WH.take 10 rfl (by kernel_rfl) (wantF rfl g31) rfl rfl hs30 (fun w_ hs_ => (Run.sliceLH (0) (3) Tryz.runUnderlying22 Tryz.sizeOf5 rfl rfl rfl rfl ?_ ?_ ?_)) ?_
  · first | rfl | (first | omega | (simp only [p6]; omega))
  · first | rfl | (first | omega | (simp only [p6]; omega))
  · refine ⟨?_, ?_, ?_⟩ <;> (first | omega | (simp only [p6]; omega))
  refine WH.o1 4 rfl (WL.call (wantF rfl g31) rfl rfl (Run.call Tryz.call144 rfl rfl rfl) (k14_ _ _) ?_)
  rintro _ whs33 ⟨A34, c35, L1_36, rfl, hs33, ho37⟩
  replace hs33 := hs30.callF hs33
  refine ⟨_, rfl, WL.nil ⟨(hs33.rm L1_36), WH.o1 11 rfl ?_⟩⟩
  refine WL.call (wantF rfl g31) rfl rfl (Run.call Tryz.call143 rfl rfl rfl) (k16_ _ _ _ _ _ _ _ _ _ (SlF.ofOwn ho37 (hs33.ow L1_36)) (SlF.cutC (lo := 0) (hi := 3) (SlF.st0 f_b hs33) (by refine ⟨?_, ?_, ?_⟩ <;> (first | omega | (simp only [p6]; omega)))) ?_) ?_
  · exact Nat.le_trans (runeB_len _) (by decide)
  rintro _ whs38 ⟨rfl, hs38⟩
  replace hs38 := hs33.call0 hs38
  refine ⟨_, rfl, WL.nil ⟨(hs38.rm L1_36), WH.rnA (Acts.nil.cons (j := 2) rfl g31) [12] (hs38.rm L1_36) [] rfl rfl ?_⟩⟩
  refine WH.take 13 rfl (by kernel_rfl) rfl rfl rfl (hs38.rm L1_36) (fun w_ hs_ => (Run.pick rfl rfl rfl rfl)) ?_
  refine WH.dn (hK29 _ _ ?_)
  refine WC.cq rfl (fun h39 qh39 => ?_) (fun h39 qh39 => ?_)
  ·refine WC.r1 hs38 [] rfl (WC.ret (tkR ?_))
   clear hK28
   refine retV2 rfl (resV.tmp rfl) (resV.tmp rfl) (⟨congrArg Ending.returned ?_, hs38.nil⟩)
   have hrs := rsum_or (a := gat encB b 0) (t := ((b.drop 1).take (3 - 1))) (c := 3) (x := (((gat encB b 0).toNat : Int) - 224) * 2 ^ 12) (.inr (.inr ⟨rfl, by omega, rfl⟩)) (by rw [List.length_take, List.length_drop]; omega)
   have hq9 : (bif !tlOk ((b.drop 1).take (3 - 1)) then true else !decide (runeB (rsum (gat encB b 0) ((b.drop 1).take (3 - 1)) 3) = b.take 3)) = true := by rw [← hrs]; exact h39
   have hno : runeL b = none := rread_no (by omega) hcl (fun r hr h1 h2 h3 => by
       rw [h2] at hq9; subst hr; have h10 : runeB (rsum (gat encB b 0) ((b.drop 1).take (3 - 1)) 3) = b.take 3 := h3; rw [h10, decide_eq_true rfl] at hq9; cases hq9)
   rw [hno]; rfl
  refine WC.skip (hK28 _ _ (WC.r1 hs38 [] rfl (WC.ret (retV2 rfl (resV.tmp rfl) (resV.tmp rfl) (⟨congrArg Ending.returned ?_, hs38.nil⟩)))))
  have hrs := rsum_or (a := gat encB b 0) (t := ((b.drop 1).take (3 - 1))) (c := 3) (x := (((gat encB b 0).toNat : Int) - 224) * 2 ^ 12) (.inr (.inr ⟨rfl, by omega, rfl⟩)) (by rw [List.length_take, List.length_drop]; omega)
  have hq9 : (bif !tlOk ((b.drop 1).take (3 - 1)) then true else !decide (runeB (rsum (gat encB b 0) ((b.drop 1).take (3 - 1)) 3) = b.take 3)) = false := by rw [← hrs]; exact h39
  rcases h11 : tlOk ((b.drop 1).take (3 - 1)) with _ | _ <;> rw [h11] at hq9
  · cases hq9
  have hyes := rread_yes (by omega) hcl (by omega) h11 hrs (by rw [hrs]; by_cases h12 : runeB (rsum (gat encB b 0) ((b.drop 1).take (3 - 1)) 3) = b.take 3; exact h12; rw [decide_eq_false h12] at hq9; cases hq9)
  rw [hyes]; rfl
 have hcl : rcls (bat b 0) = 1 := by unfold rcls; rw [if_neg (by simp only [gat, bat] at *; omega), if_neg (by simp only [gat, bat] at *; omega)]
 refine WC.skip (hK5 _ _ (WC.seq (fun K40 hK40 => ?_)))
 refine WC.rr tbk hs23 [] rfl ⟨by first | omega | (simp only [p6]; omega), trivial⟩ (WC.cq rfl (fun h41 qh41 => ?_) (fun h41 qh41 => ?_))
 ·refine WC.r1 hs23 [] rfl (WC.ret (tkR ?_))
  clear hK40
  refine retV2 rfl (resV.tmp rfl) (resV.tmp rfl) (⟨congrArg Ending.returned ?_, hs23.nil⟩)
  have hno : runeL b = none := rread_no (by omega) hcl (fun r hr h1 h2 h3 => by
      omega)
  rw [hno]; rfl
 refine WC.skip (hK40 _ _ (WC.sr ?_))
 refine WL.run tbk 6 hs23 [] rfl ⟨by first | omega | (simp only [p6]; omega), by first | omega | (simp only [p6]; omega), trivial⟩ (WL.val rfl rfl rfl (Run.sliceLH (1) (1) Tryz.runUnderlying22 Tryz.sizeOf5 rfl rfl rfl rfl ?_ ?_ ?_) ?_)
 · first | rfl | (first | omega | (simp only [p6]; omega))
 · first | rfl | (first | omega | (simp only [p6]; omega))
 · refine ⟨?_, ?_, ?_⟩ <;> (first | omega | (simp only [p6]; omega))
 refine WL.cl Tryz.call101 rfl (k13_ _ _ _ _ _ (SlF.cutC (lo := 1) (hi := 1) (SlF.st0 f_b hs23) (by refine ⟨?_, ?_, ?_⟩ <;> (first | omega | (simp only [p6]; omega)))) ?_) ?_
 · first | assumption | rfl | omega
 rintro _ whs42 ⟨rfl, hs42⟩
 replace hs42 := hs23.call0 hs42
 refine ⟨_, rfl, WL.r 3 hs42 [] rfl ?_⟩
 have htv := tlV_bnd (l := (b.drop 1).take (1 - 1)) (by rw [List.length_take, List.length_drop]; omega)
 refine WL.r 2 hs42 [] rfl (WL.nil (WC.sr ?_))
 refine WL.run tbk 4 hs42 [] rfl ⟨by first | omega | (simp only [p6]; omega), by first | omega | (simp only [p6]; omega), trivial⟩ (WL.val rfl rfl rfl (Run.shl rfl rfl rfl ?_ ?_ ?_) ?_)
 · first | omega | (simp only [p6]; omega)
 · first | omega | (simp only [p6]; omega)
 · simp only [p6]; constructor <;> omega
 refine WL.r 1 hs42 [] rfl (WL.val rfl rfl rfl (Run.or rfl rfl rfl ?_ ?_ ?_ ?_) ?_)
 · first | omega | (simp only [p6]; omega)
 · first | omega | (simp only [p6]; omega)
 · first | omega | (simp only [p6]; omega)
 · first | omega | (simp only [p6]; omega)
 refine WL.r 1 hs42 [] rfl (WL.nil (WC.seq (fun K43 hK43 => WC.seq (fun K44 hK44 => WC.rH hs42 hs42 (fun _ hs45 => ?_)))))
 refine WH.rn [0, 1, 2] hs45 [] rfl rfl (WH.split 58 rfl (fun g46 => ?_) (fun g46 => ?_))
 ·refine WH.takeSkip 3 rfl (by kernel_rfl) (wantNF rfl g46) rfl rfl hs45 (WH.takeSkip 5 rfl (by kernel_rfl) (wantNF rfl g46) rfl rfl hs45 (WH.takeSkip 6 rfl (by kernel_rfl) (wantNF rfl g46) rfl rfl hs45 (WH.takeSkip 7 rfl (by kernel_rfl) (wantNF rfl g46) rfl rfl hs45 (WH.takeSkip 8 rfl (by kernel_rfl) (wantNF rfl g46) rfl rfl hs45 (WH.takeSkip 9 rfl (by kernel_rfl) (wantNF rfl g46) rfl rfl hs45 (WH.takeSkip 10 rfl (by kernel_rfl) (wantNF rfl g46) rfl rfl hs45 (WH.o1 4 rfl ?_)))))))
  refine WL.skip (wantNF rfl g46) rfl rfl (WL.nil ⟨hs45, WH.o1 11 rfl (WL.skip (wantNF rfl g46) rfl rfl (WL.nil ⟨hs45, WH.takeSkip 12 rfl (by kernel_rfl) (wantNF rfl g46) rfl rfl hs45 ?_⟩))⟩)
  refine WH.take 13 rfl (by kernel_rfl) rfl rfl rfl hs45 (fun w_ hs_ => (Run.pickT rfl rfl g46 rfl)) ?_
  refine WH.dn (hK44 _ _ ?_)
  refine WC.cq rfl (fun h47 qh47 => ?_) (fun h47 qh47 => ?_)
  ·refine WC.r1 hs45 [] rfl (WC.ret (tkR ?_))
   clear hK43
   refine retV2 rfl (resV.tmp rfl) (resV.tmp rfl) (⟨congrArg Ending.returned ?_, hs45.nil⟩)
   have hno : runeL b = none := rread_no (by omega) hcl (fun r hr h1 h2 h3 => by
       have h9 := ‹(!tlOk ((b.drop 1).take (1 - 1))) = true›
       rw [h2] at h9; cases h9)
   rw [hno]; rfl
  refine WC.skip (hK43 _ _ (WC.r1 hs45 [] rfl (WC.ret (retV2 rfl (resV.tmp rfl) (resV.tmp rfl) (⟨congrArg Ending.returned ?_, hs45.nil⟩)))))
  cases h47
 refine WH.rnA (Acts.nil.cons (j := 2) rfl g46) [3, 5, 6, 7, 8, 9] hs45 [] rfl rfl ?_ (hS := ⟨by (first | omega | (simp only [p6]; omega)), trivial⟩)
 refine WH.take 10 rfl (by kernel_rfl) (wantF rfl g46) rfl rfl hs45 (fun w_ hs_ => (Run.sliceLH (0) (1) Tryz.runUnderlying22 Tryz.sizeOf5 rfl rfl rfl rfl ?_ ?_ ?_)) ?_
 · first | rfl | (first | omega | (simp only [p6]; omega))
 · first | rfl | (first | omega | (simp only [p6]; omega))
 · refine ⟨?_, ?_, ?_⟩ <;> (first | omega | (simp only [p6]; omega))
 refine WH.o1 4 rfl (WL.call (wantF rfl g46) rfl rfl (Run.call Tryz.call144 rfl rfl rfl) (k14_ _ _) ?_)
 rintro _ whs48 ⟨A49, c50, L1_51, rfl, hs48, ho52⟩
 replace hs48 := hs45.callF hs48
 refine ⟨_, rfl, WL.nil ⟨(hs48.rm L1_51), WH.o1 11 rfl ?_⟩⟩
 refine WL.call (wantF rfl g46) rfl rfl (Run.call Tryz.call143 rfl rfl rfl) (k16_ _ _ _ _ _ _ _ _ _ (SlF.ofOwn ho52 (hs48.ow L1_51)) (SlF.cutC (lo := 0) (hi := 1) (SlF.st0 f_b hs48) (by refine ⟨?_, ?_, ?_⟩ <;> (first | omega | (simp only [p6]; omega)))) ?_) ?_
 · exact Nat.le_trans (runeB_len _) (by decide)
 rintro _ whs53 ⟨rfl, hs53⟩
 replace hs53 := hs48.call0 hs53
 refine ⟨_, rfl, WL.nil ⟨(hs53.rm L1_51), WH.rnA (Acts.nil.cons (j := 2) rfl g46) [12] (hs53.rm L1_51) [] rfl rfl ?_⟩⟩
 refine WH.take 13 rfl (by kernel_rfl) rfl rfl rfl (hs53.rm L1_51) (fun w_ hs_ => (Run.pick rfl rfl rfl rfl)) ?_
 refine WH.dn (hK44 _ _ ?_)
 refine WC.cq rfl (fun h54 qh54 => ?_) (fun h54 qh54 => ?_)
 ·refine WC.r1 hs53 [] rfl (WC.ret (tkR ?_))
  clear hK43
  refine retV2 rfl (resV.tmp rfl) (resV.tmp rfl) (⟨congrArg Ending.returned ?_, hs53.nil⟩)
  have hrs := rsum_or (a := gat encB b 0) (t := ((b.drop 1).take (1 - 1))) (c := 1) (x := ((gat encB b 0).toNat : Int) * 2 ^ 0) (.inl ⟨rfl, rfl⟩) (by rw [List.length_take, List.length_drop]; omega)
  have hq9 : (bif !tlOk ((b.drop 1).take (1 - 1)) then true else !decide (runeB (rsum (gat encB b 0) ((b.drop 1).take (1 - 1)) 1) = b.take 1)) = true := by rw [← hrs]; exact h54
  have hno : runeL b = none := rread_no (by omega) hcl (fun r hr h1 h2 h3 => by
      rw [h2] at hq9; subst hr; have h10 : runeB (rsum (gat encB b 0) ((b.drop 1).take (1 - 1)) 1) = b.take 1 := h3; rw [h10, decide_eq_true rfl] at hq9; cases hq9)
  rw [hno]; rfl
 refine WC.skip (hK43 _ _ (WC.r1 hs53 [] rfl (WC.ret (retV2 rfl (resV.tmp rfl) (resV.tmp rfl) (⟨congrArg Ending.returned ?_, hs53.nil⟩)))))
 have hrs := rsum_or (a := gat encB b 0) (t := ((b.drop 1).take (1 - 1))) (c := 1) (x := ((gat encB b 0).toNat : Int) * 2 ^ 0) (.inl ⟨rfl, rfl⟩) (by rw [List.length_take, List.length_drop]; omega)
 have hq9 : (bif !tlOk ((b.drop 1).take (1 - 1)) then true else !decide (runeB (rsum (gat encB b 0) ((b.drop 1).take (1 - 1)) 1) = b.take 1)) = false := by rw [← hrs]; exact h54
 rcases h11 : tlOk ((b.drop 1).take (1 - 1)) with _ | _ <;> rw [h11] at hq9
 · cases hq9
 have hyes := rread_yes (by omega) hcl (by omega) h11 hrs (by rw [hrs]; by_cases h12 : runeB (rsum (gat encB b 0) ((b.drop 1).take (1 - 1)) 1) = b.take 1; exact h12; rw [decide_eq_false h12] at hq9; cases hq9)
 rw [hyes]; rfl
theorem inf108 : Tryz.prog.info? 108 = some Tryz.t108 := by kernel_rfl
theorem built_108_0 (x0 : Int) : Tryz.prog.built 108 [(0, .int .i64 x0)] = some (List.toArray [.int .i64 x0, .int .i64 0, .int .i64 0, .bool false, .bool false, .bool false]) := by kernel_rfl
theorem built_31_0_1_2 (x0 : Int) (x1 : Int) (x2 : Option Addr) (x3 : Nat) (x4 : Nat) : Tryz.prog.built 31 [(0, .int .i64 x0), (1, .int .i64 x1), (2, .slice x2 x3 x4)] = some (List.toArray [.int .i64 x0, .int .i64 x1, .slice x2 x3 x4]) := by kernel_rfl
theorem built_34 : Tryz.prog.built 34 [] = some (List.toArray [.int .i64 0, .int .i64 0, .int .i64 0, .int .i64 0, .slice none 0 0, .int .i64 0, .int .i64 0, .slice none 0 0, .bool false, .int .i64 0, .int .i64 0, .bool false, .int .i64 0, .int .i64 0, .bool false, .bool false, .bool false, .int .i64 0, .int .i64 0, .bool false, .bool false, .int .i64 0, .int .i64 0, .int .i64 0, .int .i64 0, .bool false, .bool false, .bool false, .slice none 0 0, .int .i64 0, .slice none 0 0]) := by kernel_rfl
theorem built_34_0_1_2_3_10_16_17 (x0 : Int) (x1 : Int) (x2 : Value) (x3 : Value) (x4 : Value) (x5 : Value) (x6 : Value) (x7 : Value) (x8 : Int) (x9 : Option Addr) (x10 : Nat) (x11 : Nat) (x12 : Int) : Tryz.prog.built 34 [(0, .int .i64 x0), (1, .int .i64 x1), (2, .agg [x2, x3, x4].toArray), (3, .agg [x5, x6, x7].toArray), (10, .int .i64 x8), (16, .slice x9 x10 x11), (17, .int .i64 x12)] = some (List.toArray [.int .i64 x0, .int .i64 x1, x2, x3, x4, x5, x6, x7, .bool false, .int .i64 0, .int .i64 0, .bool false, .int .i64 0, .int .i64 0, .bool false, .bool false, .bool false, .int .i64 0, .int .i64 x8, .bool false, .bool false, .int .i64 0, .int .i64 0, .int .i64 0, .int .i64 0, .bool false, .bool false, .bool false, .slice x9 x10 x11, .int .i64 x12, .slice none 0 0]) := by kernel_rfl
theorem k20_ (w_ h_ : Int) (w : World) :
    Calls Tryz.prog 104 #[i64 w_, i64 h_] w fun e w' => e = .returned (.bool (isSize w_ h_)) ∧ St w [] [] w' := by
 refine enter 17 Tryz.func104 rfl Tryz.ntmps104 rfl rfl ?_
 have hs1 := St.init w
 refine WC.r1 hs1 [] rfl (WC.sr (WL.r 1 hs1 [] rfl (WL.cl Tryz.call23 rfl (k1_ _ _ _ _) ?_)))
 rintro _ whs2 ⟨rfl, hs2⟩
 replace hs2 := hs1.call0 hs2
 refine ⟨_, rfl, WL.r 1 hs2 [] rfl ?_⟩
 apply WL.gA 2 Acts.nil hs2 rfl
 ·intro g3 J4
  have qg3 := g3
  try simp only [bf, within_iff, within_not] at qg3
  refine WL.runA tbk 1 (Acts.nil.cons (j := 2) rfl g3) hs2 [] rfl trivial (WL.call (wantT rfl g3) rfl rfl (Run.call Tryz.call23 rfl rfl rfl) (k1_ _ _ _ _) ?_)
  rintro _ whs5 ⟨rfl, hs5⟩
  replace hs5 := hs2.call0 hs5
  refine ⟨_, rfl, WL.eA 2 Acts.nil J4 hs5 g3 rfl rfl⟩
 intro _ hs6
 refine WL.r 1 hs6 [] rfl ?_
 apply WL.gA 4 Acts.nil hs6 rfl
 ·intro g7 J8
  have qg7 := g7
  try simp only [bf, within_iff, within_not] at qg7
  refine WL.runA tbk 4 (Acts.nil.cons (j := 6) rfl g7) hs6 [] rfl ⟨?_, trivial⟩ ?_
  · (have h9 := mul_size (w := w_) (h := h_) (by omega) (by omega); constructor <;> omega)
  exact WL.eA 4 Acts.nil J8 hs6 g7 rfl rfl
 intro _ hs9
 refine WL.r 1 hs9 [] rfl (WL.nil (WC.ret (rtv rfl rfl hs9 ?_)))
 rfl
theorem k21_  (w : World) :
    Calls Tryz.prog 150 #[] w fun e w' => e = .returned (.agg #[i64 32, i64 0, i64 0, .bool false, .bool false, .bool false]) ∧ St w [] [] w' := by
 refine enter 2 Tryz.func150 rfl Tryz.ntmps150 rfl rfl ?_
 have hs1 := St.init w
 refine WC.sr (WL.al hs1 Tryz.zeroValue108 rfl rfl (fun b2 _ hs3 => WL.nil (WC.sr ?_)))
 refine WL.val rfl rfl rfl (Run.build rfl rfl rfl rfl (built_108_0 _)) (WL.st tbk hs3 0 rfl rfl (fun _ hs4 => WL.nil (WC.ret (retV1 rfl (resV.cellA tbk hs4 0 rfl rfl rfl rfl) (⟨congrArg Ending.returned ?_, hs4.nil⟩)))))
 rfl
theorem k22_  (w : World) :
    Calls Tryz.prog 100 #[] w fun e w' => e = .returned (.agg #[i64 32, i64 0, i64 0, .bool false, .bool false, .bool false]) ∧ St w [] [] w' := by
 refine enter 2 Tryz.func100 rfl Tryz.ntmps100 rfl rfl ?_
 have hs1 := St.init w
 refine WC.sr (WL.al hs1 Tryz.zeroValue108 rfl rfl (fun b2 _ hs3 => WL.nil (WC.sr ?_)))
 refine WL.val rfl rfl rfl (Run.build rfl rfl rfl rfl (built_108_0 _)) (WL.st tbk hs3 0 rfl rfl (fun _ hs4 => WL.nil (WC.ret (retV1 rfl (resV.cellA tbk hs4 0 rfl rfl rfl rfl) (⟨congrArg Ending.returned ?_, hs4.nil⟩)))))
 rfl
theorem k23_ (c : Nat) (w : World) (hc : c < 4294967296) :
    Calls Tryz.prog 176 #[.int .u64 ((1 : Nat) : Int), .int .u64 (c : Int)] w fun e w' => e = .returned (.tuple #[.int .u64 ((0 : Nat) : Int), .int .u64 (c : Int)]) ∧ St w [] [] w' := by
 refine enter 51 Tryz.func176 rfl Tryz.ntmps176 rfl rfl ?_
 have hs1 := St.init w
 refine WC.r1 hs1 [] rfl (WC.sr (WL.r 1 hs1 [] rfl (WL.val rfl rfl rfl (Run.maskU (1) rfl rfl rfl ?_) ?_)))
 · omega
 refine WL.r 1 hs1 [] rfl (WL.nil (WC.sr (WL.r 1 hs1 [] rfl (WL.val rfl rfl rfl (Run.shrU (1) (0) rfl rfl rfl ?_ ?_ ?_) ?_))))
 · omega
 · omega
 · show _ / 4294967296 = _; omega
 refine WL.r 1 hs1 [] rfl (WL.nil (WC.sr (WL.r 1 hs1 [] rfl (WL.val rfl rfl rfl (Run.maskU (c) rfl rfl rfl ?_) ?_))))
 · omega
 refine WL.r 1 hs1 [] rfl (WL.nil (WC.sr (WL.r 1 hs1 [] rfl (WL.val rfl rfl rfl (Run.shrU (c) (0) rfl rfl rfl ?_ ?_ ?_) ?_))))
 · omega
 · omega
 · show _ / 4294967296 = _; omega
 refine WL.r 1 hs1 [] rfl (WL.nil (WC.sr (WL.r 2 hs1 [] rfl (WL.val rfl rfl rfl (Run.asN (c) (Run.mulW rfl rfl rfl) ?_) ?_))))
 · exact wrapU _ (by omega) (by omega)
 refine WL.r 1 hs1 [] rfl (WL.nil (WC.sr (WL.r 2 hs1 [] rfl (WL.val rfl rfl rfl (Run.asN (0) (Run.mulW rfl rfl rfl) ?_) ?_))))
 · exact wrapU _ (by omega) (by omega)
 refine WL.r 1 hs1 [] rfl (WL.val rfl rfl rfl (Run.shrU (c) (0) rfl rfl rfl ?_ ?_ ?_) ?_)
 · omega
 · omega
 · show _ / 4294967296 = _; omega
 refine WL.val rfl rfl rfl (Run.asN (0) (Run.addW rfl rfl rfl) ?_) ?_
 · exact wrapU _ (by omega) (by omega)
 refine WL.r 1 hs1 [] rfl (WL.nil (WC.sr (WL.r 1 hs1 [] rfl (WL.val rfl rfl rfl (Run.maskU (0) rfl rfl rfl ?_) ?_))))
 · omega
 refine WL.r 1 hs1 [] rfl (WL.nil (WC.sr (WL.r 1 hs1 [] rfl (WL.val rfl rfl rfl (Run.shrU (0) (0) rfl rfl rfl ?_ ?_ ?_) ?_))))
 · omega
 · omega
 · show _ / 4294967296 = _; omega
 refine WL.r 1 hs1 [] rfl (WL.nil (WC.sr (WL.r 3 hs1 [] rfl (WL.val rfl rfl rfl (Run.asN (0) (Run.mulW rfl rfl rfl) ?_) ?_))))
 · exact wrapU _ (by omega) (by omega)
 refine WL.val rfl rfl rfl (Run.asN (0) (Run.addW rfl rfl rfl) ?_) ?_
 · exact wrapU _ (by omega) (by omega)
 refine WL.r 1 hs1 [] rfl (WL.nil (WC.sr (WL.r 2 hs1 [] rfl (WL.val rfl rfl rfl (Run.asN (0) (Run.mulW rfl rfl rfl) ?_) ?_))))
 · exact wrapU _ (by omega) (by omega)
 refine WL.r 1 hs1 [] rfl (WL.val rfl rfl rfl (Run.asN (0) (Run.addW rfl rfl rfl) ?_) ?_)
 · exact wrapU _ (by omega) (by omega)
 refine WL.r 1 hs1 [] rfl (WL.val rfl rfl rfl (Run.shrU (0) (0) rfl rfl rfl ?_ ?_ ?_) ?_)
 · omega
 · omega
 · show _ / 4294967296 = _; omega
 refine WL.val rfl rfl rfl (Run.asN (0) (Run.addW rfl rfl rfl) ?_) ?_
 · exact wrapU _ (by omega) (by omega)
 refine WL.r 1 hs1 [] rfl (WL.nil (WC.sr (WL.r 2 hs1 [] rfl (WL.val rfl rfl rfl (Run.asN (c) (Run.mulW rfl rfl rfl) ?_) ?_))))
 · exact wrapU _ (by omega) (by omega)
 refine WL.r 1 hs1 [] rfl (WL.nil (WC.ret (retV2 rfl (resV.tmp rfl) (resV.tmp rfl) (⟨congrArg Ending.returned ?_, hs1.nil⟩))))
 rfl
theorem k24_ (c : Nat) (w : World) (hc : c < 4294967296) :
    Calls Tryz.prog 167 #[.int .u64 ((1 : Nat) : Int), .int .u64 (c : Int)] w fun e w' => e = .returned (.tuple #[.int .u64 ((0 : Nat) : Int), .int .u64 (c : Int)]) ∧ St w [] [] w' := by
 refine enter 30 Tryz.func167 rfl Tryz.ntmps167 rfl rfl ?_
 have hs1 := St.init w
 refine WC.r1 hs1 [] rfl (WC.seq (fun K2 hK2 => WC.condF rfl rfl (WC.skip (hK2 _ _ (WC.sr (WL.r 2 hs1 [] rfl ?_))))))
 refine WL.cl Tryz.call176 rfl (k23_ _ _ ?_) ?_
 · first | assumption | rfl | omega
 rintro _ whs4 ⟨rfl, hs4⟩
 replace hs4 := hs1.call0 hs4
 refine ⟨_, rfl, WL.r 5 hs4 [] rfl (WL.nil (WC.r1 hs4 [] rfl (WC.ret (retV2 rfl (resV.tmp rfl) (resV.tmp rfl) (⟨congrArg Ending.returned ?_, hs4.nil⟩)))))⟩
 rfl
theorem k25_ (A_x : Option Addr) (n_x c_x : Nat) (x : List CellD) (q_ : Int) (w : World) (f_x : SlF encCell w A_x n_x x) (hx : n_x = 1) (hc : 1 ≤ q_ ∧ q_ ≤ 4000) :
    Calls Tryz.prog 149 #[.slice A_x n_x c_x, i64 q_] w fun e w' => ∃ A c L1, e = .returned (.slice A (List.replicate q_.toNat (gat encCell x 0)).length c) ∧ St w [] L1 w' ∧ OwnF encCell 108 (.slice A (List.replicate q_.toNat (gat encCell x 0)).length c) (List.replicate q_.toNat (gat encCell x 0)) L1 := by
 have hx1 := hx ▸ f_x.len
 refine enter 48 Tryz.func149 rfl Tryz.ntmps149 rfl rfl ?_
 have hs1 := St.init w
 refine WC.r1 hs1 [] rfl (WC.seq (fun K2 hK2 => WC.r1 hs1 [] rfl (WC.condF rfl (decide_eq_false (by omega)) (WC.skip (hK2 _ _ (WC.sr (WL.r 2 hs1 [] rfl ?_)))))))
 refine WL.val rfl rfl rfl (Run.asN (1) (Run.conv Tryz.runUnderlying3 Tryz.runUnderlying83 rfl rfl) ?_) ?_
 · exact wrapU _ (by omega) (by decide)
 refine WL.r 1 hs1 [] rfl (WL.val rfl rfl rfl (Run.asN (q_.toNat) (Run.conv Tryz.runUnderlying3 Tryz.runUnderlying83 rfl rfl) ?_) ?_)
 · exact wrapU _ (by omega) (by omega)
 refine WL.cl Tryz.call167 rfl (k24_ _ _ ?_) ?_
 · first | assumption | rfl | omega
 rintro _ whs4 ⟨rfl, hs4⟩
 replace hs4 := hs1.call0 hs4
 refine ⟨_, rfl, WL.r 5 hs4 [] rfl (WL.nil (WC.seq (fun K5 hK5 => WC.sr (WL.r 1 hs4 [] rfl (WL.val rfl rfl rfl (Run.gtr rfl rfl rfl) (WL.r 1 hs4 [] rfl ?_))))))⟩
 apply WL.gO 2 Acts.nil hs4 rfl
 ·intro g6 J7
  have qg6 := g6
  try simp only [bf, within_iff, within_not] at qg6
  refine WL.runA tbk 1 (Acts.nil.cons (j := 2) rfl g6) hs4 [] rfl trivial (WL.val (wantF rfl g6) rfl rfl (Run.gtr rfl rfl rfl) (WL.eO 2 Acts.nil J7 hs4 g6 rfl rfl))
 intro _ hs8
 refine WL.nil ?_
 refine WC.condF rfl (by (try simp only [bf]); constructor <;> omega) (WC.skip (hK5 _ _ (WC.sr (WL.r 1 hs8 [] rfl ?_))))
 refine WL.val rfl rfl rfl (Run.asN (q_.toNat) (Run.conv Tryz.runUnderlying83 Tryz.runUnderlying3 rfl rfl) ?_) ?_
 · exact wrap_in (by constructor <;> omega)
 refine WL.makeF (F := encCell) hs8 Tryz.underlying29 inf108 rfl rfl rfl rfl rfl rfl rfl rfl rfl ?_ ?_ (fun A13 c14 L10 whs11 hs11 ho12 => ?_)
 · have e_ : Tryz.t108.bytes = 32 := rfl
   rw [e_]; omega
 · omega
 refine WL.r 1 hs11 [] rfl (WL.nil (WC.sr (WL.r 2 hs11 [] rfl (WL.copyF (lo := 0) hs11 ho12 (SlF.st0 f_x hs11) Tryz.underlying29 Tryz.underlying29 inf108 rfl rfl rfl rfl rfl rfl rfl (.inr ⟨rfl, rfl⟩) ?_ ?_ (fun L15 _ hs16 ho17 => ?_)))))
 · first | omega | (simp; omega)
 · first | omega | (simp; omega)
 refine WL.r 1 hs16 [] rfl (WL.nil (WC.seq (fun K18 hK18 => WC.block ?_)))
 refine WC.lO [4, 10, 26] rfl hs16 (fun k_ f L_ => ∃ (m : Nat), k_ = q_.toNat - m ∧ (1 ≤ m) ∧ (m ≤ q_.toNat) ∧ OwnF encCell 108 (.slice A13 (q_.toNat) c14) (List.replicate m (gat encCell x 0) ++ List.replicate (q_.toNat - m) encCell.dflt) L_ ∧ Sub [(7, .slice A13 (q_.toNat) c14), (8, .int .i64 m)] f) (((fun (m : Nat) => q_.toNat - m) (1))) ?_ ?_
 ·refine ⟨1, rfl, ?_, ?_, (rep_first (n := q_.toNat) (by omega) hx hx1 ▸ ho17), ⟨rfl, ?_, trivial⟩⟩
  · omega
  · omega
  · (refine congrArg some (congrArg (Value.int _) ?_); omega)
 clear hs16
 rintro _ f w L21 ⟨m, rfl, p0, p1, ho22, hG⟩ hF hs23
 refine WC.sub _ (hG.app hF) ?_
 clear hG hF
 have hlm : (List.replicate m (gat encCell x 0) ++ List.replicate (q_.toNat - m) encCell.dflt).length = q_.toNat := by simp; omega
 refine WC.seq (fun K24 hK24 => WC.r1 hs23 [] rfl ?_)
 refine WC.cq rfl (fun h25 qh25 => ?_) (fun h25 qh25 => ?_)
 ·refine WC.skip (hK24 _ _ (WC.block (WC.rH (hs23.rm L21) hs23 (fun _ hs26 => ?_))))
  refine WH.rn [0, 1, 2] (hs26.rm L21) [] rfl rfl ?_
  have hc_ := OwnF.cap ho22
  refine WH.take 3 rfl (by kernel_rfl) rfl rfl rfl (hs26.rm L21) (fun w_ hs_ => (Run.sliceL (m) Tryz.runUnderlying29 Tryz.sizeOf108 rfl rfl rfl ?_ ?_)) ?_
  · first | rfl | (omega)
  · refine ⟨?_, ?_, ?_⟩ <;> (omega)
  refine WH.rn [4, 5] (hs26.rm L21) [] rfl rfl ?_
  have hc_ := OwnF.cap ho22
  refine WH.take 6 rfl (by kernel_rfl) rfl rfl rfl (hs26.rm L21) (fun w_ hs_ => (Run.sliceH (m) Tryz.runUnderlying29 Tryz.sizeOf108 rfl rfl rfl ?_ ?_)) ?_
  · first | rfl | (omega)
  · refine ⟨?_, ?_, ?_⟩ <;> (omega)
  refine WH.o1 7 rfl ?_
  refine WL.copyF (lo := m) hs26 ho22 (SlF.cutH (m) (SlF.ofOwn ho22 (hs26.ow L21)) (by refine ⟨?_, ?_, ?_⟩ <;> (omega))) Tryz.underlying29 Tryz.underlying29 inf108 rfl rfl rfl rfl rfl rfl rfl (.inl rfl) ?_ ?_ (fun L27 _ hs28 ho29 => ?_)
  · first | omega | (simp; omega)
  · first | omega | (simp; omega)
  refine WL.nil ⟨(hs28.rm L27), WH.rn [8, 9] (hs28.rm L27) [] rfl rfl (WH.dn (ibN (tkN (⟨sbF rfl, _, hs28, _, ?_, (m + min m (q_.toNat - m)), rfl, ?_, ?_, (rep_next p0 p1 ▸ ho29), ⟨rfl, ?_, trivial⟩⟩))))⟩
  · omega
  · omega
  · omega
  · (refine congrArg some (congrArg (Value.int _) ?_); omega)
 refine WC.exit (hK18 _ _ (WC.r1 hs23 [] rfl (WC.ret (retV1 rfl (resV.tmp rfl) ?_))))
 have hx_ := OwnF.eqOf (xs := List.replicate q_.toNat (gat encCell x 0)) ho22 (by rw [show m = q_.toNat by omega, Nat.sub_self]; simp)
 rw [← hx_]
 first | exact ⟨_, _, _, rfl, (St.keep1 hs23), ho22⟩ | exact ⟨A13, c14, _, by rw [OwnF.len_ ho22], (St.keep1 hs23), by rw [OwnF.len_ ho22]; exact ho22⟩
theorem k26_ (w_ : Int) (h_ : Int) (w : World) (hs : isSize w_ h_ = true) :
    Calls Tryz.prog 117 #[i64 w_, i64 h_] w fun e w' => ∃ r L1, e = .returned (.agg #[i64 r.W, i64 r.H, .slice r.Cells.A r.Cells.n r.Cells.c]) ∧ St w [] L1 w' ∧ ownGridR r L1 ∧ r.dat = gridNew w_ h_ := by
 obtain ⟨hw, hh, hm1, hm2⟩ := isSize_bnd hs
 refine enter 14 Tryz.func117 rfl Tryz.ntmps117 rfl rfl ?_
 have hs1 := St.init w
 refine WC.sr (WL.al hs1 Tryz.zeroValue31 rfl rfl (fun b2 _ hs3 => WL.nil (WC.sr (WL.r 2 hs3 [] rfl (WL.cl Tryz.call150 rfl (k21_ _) ?_)))))
 rintro _ whs4 ⟨rfl, hs4⟩
 replace hs4 := hs3.call0 hs4
 refine ⟨_, rfl, WL.buildF (F := encCell) hs4 ([blankC]) Tryz.runUnderlying29 Tryz.sizeOf108 Tryz.zeroValue108 rfl rfl rfl rfl rfl rfl rfl rfl rfl rfl rfl rfl (fun A8 c9 L5 whs6 hs6 ho7 => ?_)⟩
 replace hs6 := St.back [_] hs6
 refine WL.r 3 hs6 [] rfl (WL.cl Tryz.call149 rfl (k25_ _ _ _ _ _ _ (SlF.ofOwn ho7 (hs6.ow L5)) ?_ ?_) ?_)
 iterate 2 first | assumption | rfl | omega
 rintro _ whs10 ⟨A11, c12, L1_13, rfl, hs10, ho14⟩
 replace hs10 := hs6.callF hs10
 refine ⟨_, rfl, ?_⟩
 replace hs10 := St.back [_] hs10
 refine WL.val rfl rfl rfl (Run.build rfl rfl rfl rfl (built_31_0_1_2 _ _ _ _ _)) (WL.st tbk hs10 0 rfl rfl (fun _ hs15 => WL.nil (WC.ret (retV1 rfl (resV.cellA tbk hs15 0 rfl rfl rfl rfl) ?_))))
 refine ⟨⟨w_, h_, SlD.of ho14⟩, _, rfl, (St.keep1 (hs15.fr L1_13)), ?_, ?_⟩
 · exact ho14
 · rfl
theorem k27_ (w_ : Int) (w : World) (hw : 1 ≤ w_ ∧ w_ ≤ 120) :
    Calls Tryz.prog 118 #[i64 w_] w fun e w' => ∃ A c L1, e = .returned (.slice A (tabsL w_).length c) ∧ St w [] L1 w' ∧ OwnF encI 3 (.slice A (tabsL w_).length c) (tabsL w_) L1 := by
 refine enter 16 Tryz.func118 rfl Tryz.ntmps118 rfl rfl ?_
 have hs1 := St.init w
 refine WC.r1 hs1 [] rfl (WC.sr (WL.buildF (F := encI) hs1 ([]) Tryz.runUnderlying26 Tryz.sizeOf3 Tryz.zeroValue3 rfl rfl rfl rfl rfl rfl rfl rfl rfl rfl rfl rfl (fun A5 c6 L2 whs3 hs3 ho4 => WL.r 1 hs3 [] rfl (WL.nil (WC.seq (fun K7 hK7 => WC.r1 hs3 [] rfl (WC.block ?_)))))))
 refine WC.lO [0, 2] rfl hs3 (fun k_ f L_ => ∃ (i : Nat) (A8 : Option Addr) (c9 : Nat), k_ = 121 - i ∧ (i = 0 ∨ 8 * (i : Int) < w_) ∧ (i ≤ 120) ∧ OwnF encI 3 (.slice A8 (((List.range i).map (fun i : Nat => 8 * ((i : Int) + 1))).length) c9) (((List.range i).map (fun i : Nat => 8 * ((i : Int) + 1)))) L_ ∧ Sub [(3, .slice A8 (((List.range i).map (fun i : Nat => 8 * ((i : Int) + 1))).length) c9), (4, .int .i64 (8 * ((i : Int) + 1)))] f) (((fun (i : Nat) => 121 - i) (0))) ?_ ?_
 ·refine ⟨0, _, _, rfl, ?_, ?_, ho4, ⟨?_, ?_, trivial⟩⟩
  · exact .inl rfl
  · omega
  · rfl
  · rfl
 clear hs3
 rintro _ f w L10 ⟨i, A8, c9, rfl, p0, p1, ho11, hG⟩ hF hs12
 refine WC.sub _ (hG.app hF) ?_
 clear hG hF
 have hlt : (((List.range i).map (fun i : Nat => 8 * ((i : Int) + 1)))).length = i := by simp
 refine WC.seq (fun K13 hK13 => WC.r1 hs12 [] rfl ?_)
 refine WC.cq rfl (fun h14 qh14 => ?_) (fun h14 qh14 => ?_)
 ·refine WC.skip (hK13 _ _ (WC.seq (fun K15 hK15 => WC.block (WC.region (WL.r 2 hs12 [] rfl (WL.buildSlice hs12 Tryz.runUnderlying26 Tryz.sizeOf3 Tryz.zeroValue3 rfl rfl rfl rfl rfl rfl rfl rfl rfl rfl (fun b16 whs17 hs17 => ?_)))))))
  refine WL.appendG (hs17.fr L10) ho11 (srcI1 Tryz.underlying26 (hs17.own _ (nthL_mem (i := 0) rfl)).1) Tryz.underlying26 inf3 rfl rfl rfl rfl rfl rfl rfl rfl rfl rfl ?_ (fun A21 c22 L18 whs19 hs19 ho20 => ?_)
  · simp; omega
  replace hs19 := St.back [_] hs19
  refine WL.r 1 hs19 [] rfl (WL.nil (hK15 _ _ (WC.region (WL.r 3 hs19 [] rfl (WL.nil (tkN ?_))))))
  replace hs19 := hs19.d1
  refine ⟨sbF rfl, _, hs19, _, ?_, i + 1, _, _, rfl, ?_, ?_, (tabsL_take (w := w_) (by omega) ▸ ho20), ⟨?_, ?_, trivial⟩⟩
  · omega
  · right; omega
  · omega
  · (rw [tabsL_take (w := w_) (i := i) (by omega)]; rfl)
  · (refine congrArg some (congrArg (Value.int _) ?_); omega)
 refine WC.exit (hK7 _ _ (WC.r1 hs12 [] rfl (WC.ret (retV1 rfl (resV.tmp rfl) ?_))))
 have hx_ := OwnF.eqOf (xs := tabsL w_) ho11 (by exact tabsL_end (by omega) p0)
 rw [← hx_]
 first | exact ⟨_, _, _, rfl, (St.keep1 hs12), ho11⟩ | exact ⟨A8, c9, _, by rw [OwnF.len_ ho11], (St.keep1 hs12), by rw [OwnF.len_ ho11]; exact ho11⟩
theorem k28_ (w_ : Int) (h_ : Int) (l : Int) (w : World) :
    Calls Tryz.prog 84 #[i64 w_, i64 h_, i64 l] w fun e w' => ∃ r0 L0, e = .returned (.tuple #[.agg (cScr r0).toArray, .bool (scrMay w_ h_ l)]) ∧ St w [] (L0) w' ∧ ownScrR r0 L0 ∧ r0.dat = scrRes w_ h_ l := by
 refine enter 32 Tryz.func84 rfl Tryz.ntmps84 rfl rfl ?_
 have hs1 := St.init w
 refine WC.sr (WL.al hs1 Tryz.zeroValue34 rfl rfl (fun b2 _ hs3 => WL.r 1 hs3 [] rfl (WL.nil (WC.seq (fun K4 hK4 => WC.sr (WL.r 2 hs3 [] rfl (WL.cl Tryz.call104 rfl (k20_ _ _ _) ?_)))))))
 rintro _ whs5 ⟨rfl, hs5⟩
 replace hs5 := hs3.call0 hs5
 refine ⟨_, rfl, WL.r 2 hs5 [] rfl ?_⟩
 apply WL.gO 3 Acts.nil hs5 rfl
 ·intro g6 J7
  have qg6 := g6
  try simp only [bf, within_iff, within_not] at qg6
  refine WL.runA tbk 1 (Acts.nil.cons (j := 4) rfl g6) hs5 [] rfl trivial (WL.call (wantF rfl g6) rfl rfl (Run.call Tryz.call23 rfl rfl rfl) (k1_ _ _ _ _) ?_)
  rintro _ whs8 ⟨rfl, hs8⟩
  replace hs8 := hs5.call0 hs8
  refine ⟨_, rfl, WL.runA tbk 1 (Acts.nil.cons (j := 4) rfl g6) hs8 [] rfl trivial (WL.eO 3 Acts.nil J7 hs8 g6 rfl rfl)⟩
 intro _ hs9
 refine WL.nil (WC.cq rfl (fun h10 qh10 => ?_) (fun h10 qh10 => ?_))
 ·have hm : scrMay w_ h_ l = false := by rw [← Bool.not_eq_true]; intro h9; unfold scrMay at h9; have h8 := h10; rw [← Bool.not_and, h9] at h8; cases h8
  refine WC.sr ?_
  refine WL.val rfl rfl rfl (Run.build rfl rfl rfl rfl (built_34)) (WL.st tbk hs9 0 rfl rfl (fun _ hs11 => WL.r 1 hs11 [] rfl (WL.nil (WC.ret (tkR ?_)))))
  clear hK4
  refine retV2 rfl (resV.cellA tbk hs11 0 rfl rfl rfl rfl) (resV.tmp rfl) ?_
  rw [hm]
  have hv : scrRes w_ h_ l = scr0 := by unfold scrRes; rw [hm]; rfl
  obtain ⟨L17, hs16, ho18⟩ := ownScrR.fl hs11 (OwnF.nil _ _) (OwnF.nil _ _) (OwnF.nil _ _) (OwnN.nil _ _ _)
  have hs19 := (hs16.fb b2)
  refine ⟨⟨0, 0, ⟨0, 0, ⟨none, 0, 0, []⟩⟩, ⟨0, 0, ⟨none, 0, 0, []⟩⟩, false, 0, 0, false, ⟨0, 0, false, false, false⟩, 0, 0, false, false, 0, 0, ⟨0, 0, false, false, false⟩, ⟨none, 0, 0, []⟩, 0, ⟨none, 0, 0, []⟩⟩, _, rfl, (St.keep1 (hs19.fr L17)), ?_, ?_⟩
  · exact (by exact ho18)
  · rw [hv]; rfl
 have hm : scrMay w_ h_ l = true := by unfold scrMay; rw [Bool.and_eq_true, within_iff]; exact qh10
 have hs : isSize w_ h_ = true := by unfold scrMay at hm; rw [Bool.and_eq_true] at hm; exact hm.1
 obtain ⟨hw, hh, hm1, hm2⟩ := isSize_bnd hs
 refine WC.skip (hK4 _ _ (WC.sr (WL.r 4 hs9 [] rfl ?_)))
 refine WL.cl Tryz.call117 rfl (k26_ _ _ _ ?_) ?_
 · first | assumption | rfl | omega
 rintro _ whs20 ⟨r21, L1_22, rfl, hs20, ho23, hd24⟩
 replace hs20 := hs9.callF hs20
 refine ⟨_, rfl, ?_⟩
 replace hs20 := St.back [_] hs20
 refine WL.r 2 hs20 [] rfl (WL.cl Tryz.call117 rfl (k26_ _ _ _ ?_) ?_)
 · first | assumption | rfl | omega
 rintro _ whs25 ⟨r26, L1_27, rfl, hs25, ho28, hd29⟩
 replace hs25 := hs20.callF hs25
 refine ⟨_, rfl, ?_⟩
 replace hs25 := St.back [_] hs25
 refine WL.r 3 hs25 [] rfl (WL.cl Tryz.call118 rfl (k27_ _ _ ?_) ?_)
 · first | assumption | rfl | omega
 rintro _ whs30 ⟨A31, c32, L1_33, rfl, hs30, ho34⟩
 replace hs30 := hs25.callF hs30
 refine ⟨_, rfl, ?_⟩
 replace hs30 := St.back [_] hs30
 refine WL.r 1 hs30 [] rfl ?_
 refine WL.val rfl rfl rfl (Run.build rfl rfl rfl rfl (built_34_0_1_2_3_10_16_17 _ _ _ _ _ _ _ _ _ _ _ _ _)) (WL.st tbk hs30 0 rfl rfl (fun _ hs35 => WL.r 1 hs35 [] rfl (WL.nil (WC.ret (retV2 rfl (resV.cellA tbk hs35 0 rfl rfl rfl rfl) (resV.tmp rfl) ?_)))))
 rw [hm]
 have hv : scrRes w_ h_ l = scrNew w_ h_ l := by unfold scrRes; rw [hm]; rfl
 obtain ⟨L38, hs37, ho39⟩ := ownScrR.fl hs35 ho23 ho28 ho34 (OwnN.nil _ _ _)
 have hs40 := (hs37.fb b2)
 refine ⟨⟨w_, h_, ⟨r21.W, r21.H, SlD.of ho23⟩, ⟨r26.W, r26.H, SlD.of ho28⟩, false, 0, 0, false, ⟨0, 0, false, false, false⟩, 0, (h_ - (1)), false, false, 0, 0, ⟨0, 0, false, false, false⟩, SlD.of ho34, l, ⟨none, 0, 0, []⟩⟩, _, rfl, (St.keep1 (hs40.fr L38)), ?_, ?_⟩
 · exact (by exact ho39)
 · rw [hv]; exact ScrD.ext' rfl rfl hd24 hd29 rfl rfl rfl rfl rfl rfl rfl rfl rfl rfl rfl rfl rfl rfl rfl
theorem built_31 : Tryz.prog.built 31 [] = some (List.toArray [.int .i64 0, .int .i64 0, .slice none 0 0]) := by kernel_rfl
theorem built_31_0_1 (x0 : Int) (x1 : Int) : Tryz.prog.built 31 [(0, .int .i64 x0), (1, .int .i64 x1)] = some (List.toArray [.int .i64 x0, .int .i64 x1, .slice none 0 0]) := by kernel_rfl
theorem k29_ (g : GridR) (w : World) (f_g : okGridR 549755813888 w g) (hsm : smGrid 1099511627 g.dat) :
    Calls Tryz.prog 59 #[.agg #[i64 g.W, i64 g.H, .slice g.Cells.A g.Cells.n g.Cells.c]] w fun e w' => ∃ r L1, e = .returned (.agg #[i64 r.W, i64 r.H, .slice r.Cells.A r.Cells.n r.Cells.c]) ∧ St w [] L1 w' ∧ ownGridR r L1 ∧ r.dat = g.dat := by
 have nb_g_Cells := f_g.Cells_n
 have nl_g_Cells := f_g.Cells.len
 have hl9 : g.Cells.xs.length ≤ 1099511627 := hsm
 refine enter 9 Tryz.func59 rfl Tryz.ntmps59 rfl rfl ?_
 have hs1 := St.init w
 refine WC.sr (WL.bx hs1 rfl (fun b2 _ hs3 => WL.al hs3 Tryz.zeroValue31 rfl rfl (fun b4 _ hs5 => WL.nil (WC.sr (WL.buildF (F := encCell) hs5 ([]) Tryz.runUnderlying29 Tryz.sizeOf108 Tryz.zeroValue108 rfl rfl rfl rfl rfl rfl rfl rfl rfl rfl rfl rfl (fun A9 c10 L6 whs7 hs7 ho8 => ?_))))))
 replace hs7 := St.back [_, _] hs7
 refine WL.r 2 hs7 [1] rfl (WL.appendG (hs7.fr L6) ho8 (SlF.src (SlF.st0 f_g.Cells hs7) Tryz.underlying29) Tryz.underlying29 inf108 rfl rfl rfl rfl rfl rfl rfl rfl rfl rfl ?_ (fun A14 c15 L11 whs12 hs12 ho13 => ?_))
 · simp; omega
 replace hs12 := St.back [_, _] hs12
 refine WL.r 1 hs12 [] rfl (WL.st tbk hs12 1 rfl rfl (fun _ hs16 => WL.nil (WC.sr (WL.r 1 hs16 [1] rfl (WL.st tbk hs16 0 rfl rfl (fun _ hs17 => WL.nil (WC.ret ?_)))))))
 refine retV1 rfl (resV.cellA tbk hs17 0 rfl rfl rfl rfl) (⟨⟨g.W, g.H, SlD.of ho13⟩, _, rfl, (St.keep1 (hs17.fr L11)), ?_, ?_⟩)
 · exact ho13
 · rfl
theorem k30_ (w_ : Int) (h_ : Int) (w : World) :
    Calls Tryz.prog 58 #[i64 w_, i64 h_] w fun e w' => ∃ r0 L0, e = .returned (.tuple #[.agg #[i64 r0.W, i64 r0.H, .slice r0.Cells.A r0.Cells.n r0.Cells.c], .bool (isSize w_ h_)]) ∧ St w [] (L0) w' ∧ ownGridR r0 L0 ∧ r0.dat = gridRes w_ h_ := by
 refine enter 46 Tryz.func58 rfl Tryz.ntmps58 rfl rfl ?_
 have hs1 := St.init w
 refine WC.sr (WL.al hs1 Tryz.zeroValue31 rfl rfl (fun b2 _ hs3 => WL.r 1 hs3 [] rfl (WL.nil (WC.seq (fun K4 hK4 => WC.sr (WL.r 3 hs3 [] rfl (WL.pO tbk 2 Acts.nil hs3 [] rfl rfl rfl rfl (fun g_ => trivial) ?_)))))))
 refine WL.r 1 hs3 [] rfl (WL.pO tbk 2 Acts.nil hs3 [] rfl rfl rfl rfl (fun g_ => trivial) (WL.r 1 hs3 [] rfl (WL.pO tbk 2 Acts.nil hs3 [] rfl rfl rfl rfl (fun g_ => trivial) (WL.r 1 hs3 [] rfl ?_))))
 apply WL.gO 4 Acts.nil hs3 rfl
 ·intro g5 J6
  have qg5 := g5
  try simp only [bf, within_iff, within_not] at qg5
  refine WL.runA tbk 4 (Acts.nil.cons (j := 14) rfl g5) hs3 [] rfl ⟨?_, trivial⟩ ?_
  · (have h9 := mul_size (w := w_) (h := h_) (by omega) (by omega); constructor <;> omega)
  exact WL.eO 4 Acts.nil J6 hs3 g5 rfl rfl
 intro _ hs7
 refine WL.nil (WC.cq rfl (fun h8 qh8 => ?_) (fun h8 qh8 => ?_))
 ·have hm : isSize w_ h_ = false := by rw [← Bool.not_eq_true, isSize_iff]; have h8 := h8; simp at h8; omega
  refine WC.sr ?_
  refine WL.val rfl rfl rfl (Run.build rfl rfl rfl rfl (built_31)) (WL.st tbk hs7 0 rfl rfl (fun _ hs9 => WL.r 1 hs9 [] rfl (WL.nil (WC.ret (tkR ?_)))))
  clear hK4
  refine retV2 rfl (resV.cellA tbk hs9 0 rfl rfl rfl rfl) (resV.tmp rfl) ?_
  rw [show isSize w_ h_ = false from hm]
  have hv : gridRes w_ h_ = grid0 := by unfold gridRes; rw [hm]; rfl
  refine ⟨⟨0, 0, ⟨none, 0, 0, []⟩⟩, _, rfl, (St.keep1 (hs9.fr ([] : Hp))), ?_, ?_⟩
  · exact (OwnF.nil _ _)
  · rw [hv]; rfl
 have hm : isSize w_ h_ = true := by rw [isSize_iff]; have h8 := h8; simp at h8; omega
 obtain ⟨hw, hh, hm1, hm2⟩ := isSize_bnd hm
 refine WC.skip (hK4 _ _ (WC.sr (WL.r 2 hs7 [] rfl ?_)))
 refine WL.val rfl rfl rfl (Run.build rfl rfl rfl rfl (built_31_0_1 _ _)) (WL.al hs7 Tryz.zeroValue31 rfl rfl (fun b11 _ hs12 => WL.st tbk hs12 0 rfl rfl (fun _ hs13 => WL.nil (WC.seq (fun K14 hK14 => WC.r1 hs13 [] rfl (WC.block ?_))))))
 have hM20 := (St.grp1 (L1 := ([] : Hp)) [_] (((hs13.fb b2).fr ([] : Hp)).fb b11))
 refine WC.lV [0, 1, 4, 5, 6, 27] rfl hM20 (fun k_ (a_ : Hp) f => ∃ (i : Nat) (zs : List CellD) (A16 : Option Addr) (c17 : Nat) (L18 : Hp), k_ = (w_ * h_).toNat - i ∧ a_ = [(b11, .cells (List.toArray [i64 w_, i64 h_, .slice A16 zs.length c17]) 31 (0, 0))] ++ L18 ∧ (i ≤ (w_ * h_).toNat) ∧ (zs = List.replicate i blankC) ∧ OwnF encCell 108 (.slice A16 (zs).length c17) (zs) L18 ∧ Sub [(7, .int .i64 i)] f) (((fun (i : Nat) (zs : List CellD) => (w_ * h_).toNat - i) (0) ([]))) ?_ ?_
 ·refine ⟨0, [], none, 0, ([] : Hp), rfl, rfl, ?_, ?_, (OwnF.nil _ _), ⟨rfl, trivial⟩⟩
  · omega
  · rfl
 rintro _ _ f w ⟨i, zs, A16, c17, L18, rfl, rfl, p0, p1, ho19, hG⟩ hF hs21
 refine WC.sub _ (hG.app hF) ?_
 clear hG hF
 replace hs21 := St.ungrp1 [_] hs21
 have hs22 := ((hs21.fb b2).fb b11)
 have hzl : zs.length = i := by rw [p1]; simp
 refine WC.seq (fun K23 hK23 => WC.r1 hs22 [] rfl ?_)
 refine WC.cq rfl (fun h24 qh24 => ?_) (fun h24 qh24 => ?_)
 ·refine WC.skip (hK23 _ _ (WC.seq (fun K25 hK25 => WC.block (WC.rH (hs22.d1.rm L18) hs22 (fun _ hs26 => ?_)))))
  refine WH.rn [0] (hs26.d1.rm L18) [] rfl rfl (WH.all [1, 2] (by kernel_rfl) rfl (WHs.cons (i := 1) rfl ?_ (WHs.cons (i := 2) rfl ?_ WHs.nil)))
  ·refine WL.r 1 hs26 [0] rfl (WL.nil ⟨(hs26.d1.rm L18), WH.o1 2 rfl (WL.cl Tryz.call100 rfl (k22_ _) ?_)⟩)
   rintro _ whs27 ⟨rfl, hs27⟩
   replace hs27 := hs26.call0 hs27
   refine ⟨_, rfl, WL.nil ⟨(hs27.d1.rm L18), WH.o1 3 rfl (WL.buildF (F := encCell) hs27 ([blankC]) Tryz.runUnderlying29 Tryz.sizeOf108 Tryz.zeroValue108 rfl rfl rfl rfl rfl rfl rfl rfl rfl rfl rfl rfl (fun A31 c32 L28 whs29 hs29 ho30 => ?_))⟩⟩
   replace hs29 := St.back [_, _] hs29
   refine WL.nil ⟨((hs29.d1.rm L28).rm L18), WH.o1 4 rfl (WL.appendG (hs29.fr L18) ho19 (SlF.src (SlF.ofOwn ho30 (hs29.ow L28)) Tryz.underlying29) Tryz.underlying29 inf108 rfl rfl rfl rfl rfl rfl rfl rfl rfl rfl ?_ (fun A36 c37 L33 whs34 hs34 ho35 => ?_))⟩
   · simp; omega
   replace hs34 := St.back [_, _] hs34
   refine WL.nil ⟨((hs34.d1.rm L33).rm L28), WH.rn [5] ((hs34.d1.rm L33).rm L28) [] rfl rfl (WH.o1 6 rfl (WL.st tbk hs34 0 rfl rfl (fun _ hs38 => WL.nil ⟨((hs38.d1.rm L33).rm L28), WH.dn (hK25 _ _ (WC.region ?_))⟩)))⟩
   refine WL.r 3 hs38 [] rfl (WL.nil (tkN ?_))
   replace hs38 := (hs38.rm L28)
   have hF39 := (St.grp1 (L1 := L33) [_] (((hs38.fb b2).fr L33).fb b11))
   refine ⟨sbF rfl, _, hF39, _, ?_, i + 1, _, A36, c37, L33, rfl, rfl, ?_, ?_, ho35, ⟨rfl, trivial⟩⟩
   · omega
   · omega
   · rw [p1]; exact List.replicate_succ'.symm
  refine WL.cl Tryz.call100 rfl (k22_ _) ?_
  rintro _ whs40 ⟨rfl, hs40⟩
  replace hs40 := hs26.call0 hs40
  refine ⟨_, rfl, WL.nil ⟨(hs40.d1.rm L18), WH.all [1, 3] (by kernel_rfl) rfl (WHs.cons (i := 1) rfl ?_ (WHs.cons (i := 3) rfl ?_ WHs.nil))⟩⟩
  ·refine WL.r 1 hs40 [0] rfl (WL.nil ⟨(hs40.d1.rm L18), WH.o1 3 rfl (WL.buildF (F := encCell) hs40 ([blankC]) Tryz.runUnderlying29 Tryz.sizeOf108 Tryz.zeroValue108 rfl rfl rfl rfl rfl rfl rfl rfl rfl rfl rfl rfl (fun A44 c45 L41 whs42 hs42 ho43 => ?_))⟩)
   replace hs42 := St.back [_, _] hs42
   refine WL.nil ⟨((hs42.d1.rm L41).rm L18), WH.o1 4 rfl (WL.appendG (hs42.fr L18) ho19 (SlF.src (SlF.ofOwn ho43 (hs42.ow L41)) Tryz.underlying29) Tryz.underlying29 inf108 rfl rfl rfl rfl rfl rfl rfl rfl rfl rfl ?_ (fun A49 c50 L46 whs47 hs47 ho48 => ?_))⟩
   · simp; omega
   replace hs47 := St.back [_, _] hs47
   refine WL.nil ⟨((hs47.d1.rm L46).rm L41), WH.rn [5] ((hs47.d1.rm L46).rm L41) [] rfl rfl (WH.o1 6 rfl (WL.st tbk hs47 0 rfl rfl (fun _ hs51 => WL.nil ⟨((hs51.d1.rm L46).rm L41), WH.dn (hK25 _ _ (WC.region ?_))⟩)))⟩
   refine WL.r 3 hs51 [] rfl (WL.nil (tkN ?_))
   replace hs51 := (hs51.rm L41)
   have hF52 := (St.grp1 (L1 := L46) [_] (((hs51.fb b2).fr L46).fb b11))
   refine ⟨sbF rfl, _, hF52, _, ?_, i + 1, _, A49, c50, L46, rfl, rfl, ?_, ?_, ho48, ⟨rfl, trivial⟩⟩
   · omega
   · omega
   · rw [p1]; exact List.replicate_succ'.symm
  refine WL.buildF (F := encCell) hs40 ([blankC]) Tryz.runUnderlying29 Tryz.sizeOf108 Tryz.zeroValue108 rfl rfl rfl rfl rfl rfl rfl rfl rfl rfl rfl rfl (fun A56 c57 L53 whs54 hs54 ho55 => ?_)
  replace hs54 := St.back [_, _] hs54
  refine WL.nil ⟨((hs54.d1.rm L53).rm L18), WH.o1 1 rfl (WL.r 1 hs54 [0] rfl (WL.nil ⟨((hs54.d1.rm L53).rm L18), WH.o1 4 rfl (WL.appendG (hs54.fr L18) ho19 (SlF.src (SlF.ofOwn ho55 (hs54.ow L53)) Tryz.underlying29) Tryz.underlying29 inf108 rfl rfl rfl rfl rfl rfl rfl rfl rfl rfl ?_ (fun A61 c62 L58 whs59 hs59 ho60 => ?_))⟩))⟩
  · simp; omega
  replace hs59 := St.back [_, _] hs59
  refine WL.nil ⟨((hs59.d1.rm L58).rm L53), WH.rn [5] ((hs59.d1.rm L58).rm L53) [] rfl rfl (WH.o1 6 rfl (WL.st tbk hs59 0 rfl rfl (fun _ hs63 => WL.nil ⟨((hs63.d1.rm L58).rm L53), WH.dn (hK25 _ _ (WC.region ?_))⟩)))⟩
  refine WL.r 3 hs63 [] rfl (WL.nil (tkN ?_))
  replace hs63 := (hs63.rm L53)
  have hF64 := (St.grp1 (L1 := L58) [_] (((hs63.fb b2).fr L58).fb b11))
  refine ⟨sbF rfl, _, hF64, _, ?_, i + 1, _, A61, c62, L58, rfl, rfl, ?_, ?_, ho60, ⟨rfl, trivial⟩⟩
  · omega
  · omega
  · rw [p1]; exact List.replicate_succ'.symm
 refine WC.exit (hK14 _ _ (WC.sr (WL.r 1 hs22 [0] rfl (WL.st tbk hs22 1 rfl rfl (fun _ hs65 => WL.r 1 hs65 [] rfl (WL.nil (WC.ret ?_)))))))
 refine retV2 rfl (resV.cellA tbk hs65 1 rfl rfl rfl rfl) (resV.tmp rfl) ?_
 rw [hm]
 have hv : gridRes w_ h_ = gridNew w_ h_ := by unfold gridRes; rw [hm]; rfl
 refine ⟨⟨w_, h_, SlD.of ho19⟩, _, rfl, (St.keep1 (hs65.fr L18)), ?_, ?_⟩
 · exact ho19
 · rw [hv]; show GridD.mk w_ h_ zs = _; rw [p1, show i = (w_ * h_).toNat by omega]; rfl
theorem k31_ (w_ : Int) (w : World) (hw : 1 ≤ w_ ∧ w_ ≤ 120) :
    Calls Tryz.prog 60 #[i64 w_] w fun e w' => ∃ A c L1, e = .returned (.slice A (tabsL w_).length c) ∧ St w [] L1 w' ∧ OwnF encI 3 (.slice A (tabsL w_).length c) (tabsL w_) L1 := by
 refine enter 16 Tryz.func60 rfl Tryz.ntmps60 rfl rfl ?_
 have hs1 := St.init w
 refine WC.r1 hs1 [] rfl (WC.sr (WL.buildF (F := encI) hs1 ([]) Tryz.runUnderlying26 Tryz.sizeOf3 Tryz.zeroValue3 rfl rfl rfl rfl rfl rfl rfl rfl rfl rfl rfl rfl (fun A5 c6 L2 whs3 hs3 ho4 => WL.r 1 hs3 [] rfl (WL.nil (WC.seq (fun K7 hK7 => WC.r1 hs3 [] rfl (WC.block ?_)))))))
 refine WC.lO [0, 2] rfl hs3 (fun k_ f L_ => ∃ (i : Nat) (A8 : Option Addr) (c9 : Nat), k_ = 121 - i ∧ (i = 0 ∨ 8 * (i : Int) < w_) ∧ (i ≤ 120) ∧ OwnF encI 3 (.slice A8 (((List.range i).map (fun i : Nat => 8 * ((i : Int) + 1))).length) c9) (((List.range i).map (fun i : Nat => 8 * ((i : Int) + 1)))) L_ ∧ Sub [(3, .slice A8 (((List.range i).map (fun i : Nat => 8 * ((i : Int) + 1))).length) c9), (4, .int .i64 (8 * ((i : Int) + 1)))] f) (((fun (i : Nat) => 121 - i) (0))) ?_ ?_
 ·refine ⟨0, _, _, rfl, ?_, ?_, ho4, ⟨?_, ?_, trivial⟩⟩
  · exact .inl rfl
  · omega
  · rfl
  · rfl
 clear hs3
 rintro _ f w L10 ⟨i, A8, c9, rfl, p0, p1, ho11, hG⟩ hF hs12
 refine WC.sub _ (hG.app hF) ?_
 clear hG hF
 have hlt : (((List.range i).map (fun i : Nat => 8 * ((i : Int) + 1)))).length = i := by simp
 refine WC.seq (fun K13 hK13 => WC.r1 hs12 [] rfl ?_)
 refine WC.cq rfl (fun h14 qh14 => ?_) (fun h14 qh14 => ?_)
 ·refine WC.skip (hK13 _ _ (WC.seq (fun K15 hK15 => WC.block (WC.region (WL.r 2 hs12 [] rfl (WL.buildSlice hs12 Tryz.runUnderlying26 Tryz.sizeOf3 Tryz.zeroValue3 rfl rfl rfl rfl rfl rfl rfl rfl rfl rfl (fun b16 whs17 hs17 => ?_)))))))
  refine WL.appendG (hs17.fr L10) ho11 (srcI1 Tryz.underlying26 (hs17.own _ (nthL_mem (i := 0) rfl)).1) Tryz.underlying26 inf3 rfl rfl rfl rfl rfl rfl rfl rfl rfl rfl ?_ (fun A21 c22 L18 whs19 hs19 ho20 => ?_)
  · simp; omega
  replace hs19 := St.back [_] hs19
  refine WL.r 1 hs19 [] rfl (WL.nil (hK15 _ _ (WC.region (WL.r 3 hs19 [] rfl (WL.nil (tkN ?_))))))
  replace hs19 := hs19.d1
  refine ⟨sbF rfl, _, hs19, _, ?_, i + 1, _, _, rfl, ?_, ?_, (tabsL_take (w := w_) (by omega) ▸ ho20), ⟨?_, ?_, trivial⟩⟩
  · omega
  · right; omega
  · omega
  · (rw [tabsL_take (w := w_) (i := i) (by omega)]; rfl)
  · (refine congrArg some (congrArg (Value.int _) ?_); omega)
 refine WC.exit (hK7 _ _ (WC.r1 hs12 [] rfl (WC.ret (retV1 rfl (resV.tmp rfl) ?_))))
 have hx_ := OwnF.eqOf (xs := tabsL w_) ho11 (by exact tabsL_end (by omega) p0)
 rw [← hx_]
 first | exact ⟨_, _, _, rfl, (St.keep1 hs12), ho11⟩ | exact ⟨A8, c9, _, by rw [OwnF.len_ ho11], (St.keep1 hs12), by rw [OwnF.len_ ho11]; exact ho11⟩
theorem k32_ (w_ : Int) (h_ : Int) (l : Int) (w : World) :
    Calls Tryz.prog 31 #[i64 w_, i64 h_, i64 l] w fun e w' => ∃ r0 L0, e = .returned (.tuple #[.agg (cScr r0).toArray, .bool (scrMay w_ h_ l)]) ∧ St w [] (L0) w' ∧ ownScrR r0 L0 ∧ r0.dat = scrRes w_ h_ l := by
 refine enter 38 Tryz.func31 rfl Tryz.ntmps31 rfl rfl ?_
 have hs1 := St.init w
 refine WC.sr (WL.al hs1 Tryz.zeroValue34 rfl rfl (fun b2 _ hs3 => WL.r 1 hs3 [] rfl (WL.nil (WC.sr (WL.r 2 hs3 [] rfl (WL.cl Tryz.call58 rfl (k30_ _ _ _) ?_))))))
 rintro _ whs4 ⟨r0_5, L0_6, rfl, hs4, ho7, hd0_8⟩
 replace hs4 := hs3.callF hs4
 refine ⟨_, rfl, ?_⟩
 replace hs4 := St.back [_] hs4
 refine WL.r 3 hs4 [] rfl (WL.al hs4 Tryz.zeroValue31 rfl rfl (fun b9 _ hs10 => WL.st tbk hs10 0 rfl rfl (fun _ hs11 => WL.r 1 hs11 [] rfl (WL.nil (WC.seq (fun K12 hK12 => WC.sr (WL.r 3 hs11 [] rfl ?_)))))))
 refine WL.pO tbk 2 Acts.nil hs11 [] rfl rfl rfl rfl (fun g_ => trivial) (WL.r 1 hs11 [] rfl (WL.pO tbk 2 Acts.nil hs11 [] rfl rfl rfl rfl (fun g_ => trivial) (WL.nil (WC.cq rfl (fun h13 qh13 => ?_) (fun h13 qh13 => ?_)))))
 ·have hm : scrMay w_ h_ l = false := by rw [← Bool.not_eq_true]; intro h9; unfold scrMay at h9; rw [Bool.and_eq_true, within_iff] at h9; have h8 := h13; simp [h9.1] at h8; omega
  refine WC.sr ?_
  refine WL.val rfl rfl rfl (Run.build rfl rfl rfl rfl (built_34)) (WL.st tbk hs11 1 rfl rfl (fun _ hs14 => WL.r 1 hs14 [] rfl (WL.nil (WC.ret (tkR ?_)))))
  clear hK12
  refine retV2 rfl (resV.cellA tbk hs14 1 rfl rfl rfl rfl) (resV.tmp rfl) ?_
  rw [hm]
  have hv : scrRes w_ h_ l = scr0 := by unfold scrRes; rw [hm]; rfl
  obtain ⟨L20, hs19, ho21⟩ := ownScrR.fl hs14 (OwnF.nil _ _) (OwnF.nil _ _) (OwnF.nil _ _) (OwnN.nil _ _ _)
  have hs22 := ((hs19.fb b2).fb b9)
  refine ⟨⟨0, 0, ⟨0, 0, ⟨none, 0, 0, []⟩⟩, ⟨0, 0, ⟨none, 0, 0, []⟩⟩, false, 0, 0, false, ⟨0, 0, false, false, false⟩, 0, 0, false, false, 0, 0, ⟨0, 0, false, false, false⟩, ⟨none, 0, 0, []⟩, 0, ⟨none, 0, 0, []⟩⟩, _, rfl, (St.keep1 (hs22.fr L20)), ?_, ?_⟩
  · exact (by exact ho21)
  · rw [hv]; rfl
 have hm : scrMay w_ h_ l = true := by unfold scrMay; rw [Bool.and_eq_true, within_iff]; have h8 := h13; simp at h8; exact ⟨h8.1.1, by omega⟩
 have hs : isSize w_ h_ = true := by unfold scrMay at hm; rw [Bool.and_eq_true] at hm; exact hm.1
 obtain ⟨hw, hh, hm1, hm2⟩ := isSize_bnd hs
 have hgr : gridRes w_ h_ = gridNew w_ h_ := by unfold gridRes; rw [hs]; rfl
 have hgB : smGrid 1099511627 (gridRes w_ h_) := by rw [hgr]; show (List.replicate _ _).length ≤ _; rw [List.length_replicate]; omega
 have hgB2 : smGrid 549755813888 (gridRes w_ h_) := Nat.le_trans hgB (by decide)
 refine WC.skip (hK12 _ _ (WC.seq (fun K23 hK23 => WC.rH (hs11.fb b2).d1 hs11 (fun _ hs24 => ?_))))
 refine WH.rn [0, 1, 2, 3, 5, 6, 7, 9] (hs24.fb b2).d1 [0, 0] rfl rfl (WH.o1 4 rfl ?_)
 refine WL.cl Tryz.call59 rfl (k29_ r0_5 _ (ownGridR.ok (B := 549755813888) ho7 (hs24.ow L0_6) (by rw [hd0_8]; assumption)) ?_) ?_
 · first | assumption | rfl | omega | (rw [hd0_8]; assumption)
 rintro _ whs25 ⟨r26, L1_27, rfl, hs25, ho28, hd29⟩
 replace hs25 := hs24.callF hs25
 refine ⟨_, rfl, ?_⟩
 replace hs25 := St.back [_, _] hs25
 refine WL.nil ⟨((hs25.fb b2).d1.rm L1_27), WH.o1 8 rfl (WL.cl Tryz.call60 rfl (k31_ _ _ ?_) ?_)⟩
 · first | assumption | rfl | omega | (rw [hd0_8]; assumption)
 rintro _ whs30 ⟨A31, c32, L1_33, rfl, hs30, ho34⟩
 replace hs30 := hs25.callF hs30
 refine ⟨_, rfl, ?_⟩
 replace hs30 := St.back [_, _] hs30
 refine WL.nil ⟨(((hs30.fb b2).d1.rm L1_33).rm L1_27), ?_⟩
 refine WH.take 10 rfl (by kernel_rfl) rfl rfl rfl (((hs30.fb b2).d1.rm L1_33).rm L1_27) (fun w_ hs_ => (Run.build rfl rfl rfl rfl (built_34_0_1_2_3_10_16_17 _ _ _ _ _ _ _ _ _ _ _ _ _))) ?_
 refine WH.o1 11 rfl (WL.st tbk hs30 1 rfl rfl (fun _ hs35 => WL.nil ⟨(((hs35.fb b2).d1.rm L1_33).rm L1_27), WH.rn [12] (((hs35.fb b2).d1.rm L1_33).rm L1_27) [] rfl rfl (WH.dn (hK23 _ _ (WC.ret (retV2 rfl (resV.cellA tbk hs35 1 rfl rfl rfl rfl) (resV.tmp rfl) ?_))))⟩))
 rw [hm]
 have hv : scrRes w_ h_ l = scrNew w_ h_ l := by unfold scrRes; rw [hm]; rfl
 obtain ⟨L38, hs37, ho39⟩ := ownScrR.fl hs35 ho7 ho28 ho34 (OwnN.nil _ _ _)
 have hs40 := ((hs37.fb b2).fb b9)
 refine ⟨⟨w_, h_, ⟨r0_5.W, r0_5.H, SlD.of ho7⟩, ⟨r26.W, r26.H, SlD.of ho28⟩, false, 0, 0, false, ⟨0, 0, false, false, false⟩, 0, (h_ - (1)), false, false, 0, 0, ⟨0, 0, false, false, false⟩, SlD.of ho34, l, ⟨none, 0, 0, []⟩⟩, _, rfl, (St.keep1 (hs40.fr L38)), ?_, ?_⟩
 · exact (by exact ho39)
 · rw [hv]; exact ScrD.ext' rfl rfl (hd0_8.trans hgr) (hd29.trans (hd0_8.trans hgr)) rfl rfl rfl rfl rfl rfl rfl rfl rfl rfl rfl rfl rfl rfl rfl
theorem k33_ (g : GridR) (w : World) (f_g : okGridR 549755813888 w g) :
    Calls Tryz.prog 63 #[.agg #[i64 g.W, i64 g.H, .slice g.Cells.A g.Cells.n g.Cells.c]] w fun e w' => e = .returned (.bool (gridOk g.dat)) ∧ St w [] [] w' := by
 have nb_g_Cells := f_g.Cells_n
 have nl_g_Cells := f_g.Cells.len
 refine enter 24 Tryz.func63 rfl Tryz.ntmps63 rfl rfl ?_
 have hs1 := St.init w
 refine WC.sr (WL.bx hs1 rfl (fun b2 _ hs3 => WL.r 1 hs3 [] rfl (WL.nil (WC.sr (WL.r 4 hs3 [0, 0] rfl (WL.cl Tryz.call104 rfl (k20_ _ _ _) ?_))))))
 rintro _ whs4 ⟨rfl, hs4⟩
 replace hs4 := hs3.call0 hs4
 refine ⟨_, rfl, WL.r 1 hs4 [] rfl ?_⟩
 apply WL.gA 9 Acts.nil hs4 rfl
 ·intro g5 J6
  have qg5 := g5
  try simp only [bf, within_iff, within_not] at qg5
  refine WL.runA tbk 9 (Acts.nil.cons (j := 5) rfl g5) hs4 [0, 0, 0] rfl ⟨?_, rfl, rfl, rfl, trivial⟩ ?_
  · (obtain ⟨_, _, h9, h10⟩ := isSize_bnd (w := g.W) (h := g.H) (by assumption); constructor <;> omega)
  exact WL.eA 9 Acts.nil J6 hs4 g5 rfl rfl
 intro _ hs7
 refine WL.r 1 hs7 [] rfl ?_
 apply WL.gA 3 Acts.nil hs7 rfl
 ·intro g8 J9
  have qg8 := g8
  try simp only [bf, within_iff, within_not] at qg8
  refine WL.runA tbk 2 (Acts.nil.cons (j := 16) rfl g8) hs7 [0] rfl ⟨rfl, trivial⟩ (WL.call (wantT rfl g8) rfl rfl (Run.call Tryz.call105 rfl rfl rfl) (k11_ _ _ _ _ _ (SlF.st0 f_g.Cells hs7) ?_) ?_)
  · first | assumption | rfl | omega
  rintro _ whs10 ⟨rfl, hs10⟩
  replace hs10 := hs7.call0 hs10
  refine ⟨_, rfl, WL.eA 3 Acts.nil J9 hs10 g8 rfl rfl⟩
 intro _ hs11
 refine WL.r 1 hs11 [] rfl (WL.nil (WC.ret (rtv rfl rfl hs11 ?_)))
 rw [← nl_g_Cells]; rfl
theorem k34_ (g : GridR) (x : Int) (y : Int) (w : World) (f_g : okGridR 549755813888 w g) (hw : 0 ≤ g.W ∧ g.W ≤ 120) (hh : 0 ≤ g.H ∧ g.H ≤ 120) :
    Calls Tryz.prog 64 #[.agg #[i64 g.W, i64 g.H, .slice g.Cells.A g.Cells.n g.Cells.c], i64 x, i64 y] w fun e w' => e = .returned (.bool (gridHas g.dat x y)) ∧ St w [] [] w' := by
 have nb_g_Cells := f_g.Cells_n
 have nl_g_Cells := f_g.Cells.len
 refine enter 19 Tryz.func64 rfl Tryz.ntmps64 rfl rfl ?_
 have hs1 := St.init w
 refine WC.sr (WL.bx hs1 rfl (fun b2 _ hs3 => WL.r 1 hs3 [] rfl (WL.nil (WC.sr (WL.r 4 hs3 [0] rfl (WL.cl Tryz.call23 rfl (k1_ _ _ _ _) ?_))))))
 rintro _ whs4 ⟨rfl, hs4⟩
 replace hs4 := hs3.call0 hs4
 refine ⟨_, rfl, WL.r 1 hs4 [] rfl ?_⟩
 apply WL.gA 5 Acts.nil hs4 rfl
 ·intro g5 J6
  have qg5 := g5
  try simp only [bf, within_iff, within_not] at qg5
  refine WL.runA tbk 4 (Acts.nil.cons (j := 5) rfl g5) hs4 [0] rfl ⟨by omega, rfl, trivial⟩ (WL.call (wantT rfl g5) rfl rfl (Run.call Tryz.call23 rfl rfl rfl) (k1_ _ _ _ _) ?_)
  rintro _ whs7 ⟨rfl, hs7⟩
  replace hs7 := hs4.call0 hs7
  refine ⟨_, rfl, WL.eA 5 Acts.nil J6 hs7 g5 rfl rfl⟩
 intro _ hs8
 refine WL.r 1 hs8 [] rfl (WL.nil (WC.ret (rtv rfl rfl hs8 ?_)))
 rfl
theorem k35_ (A_l : Option Addr) (n_l c_l : Nat) (l : List Int) (lo : Int) (hi : Int) (w : World) (f_l : SlF encI w A_l n_l l) (hn : n_l ≤ 549755813888) :
    Calls Tryz.prog 65 #[.slice A_l n_l c_l, i64 lo, i64 hi] w fun e w' => e = .returned (.bool (isAsc l lo hi)) ∧ St w [] [] w' := by
 refine enter 35 Tryz.func65 rfl Tryz.ntmps65 rfl rfl ?_
 have hs1 := St.init w
 refine WC.r1 hs1 [] rfl (WC.seq (fun K2 hK2 => WC.r1 hs1 [] rfl (WC.block ?_)))
 refine WC.lS [0, 1, 2, 9, 10] rfl hs1 (fun k_ f w' => ∃ (i : Nat), k_ = n_l - i ∧ (i ≤ n_l) ∧ (∀ j, j < i → ascAt l lo hi j = true) ∧ Sub [(11, .int .i64 i)] f) ((fun (i : Nat) => n_l - i) (0)) ?_ ?_
 ·refine ⟨0, rfl, ?_, ?_, ⟨rfl, trivial⟩⟩
  · exact Nat.zero_le _
  · exact fun j hj => absurd hj (by omega)
 clear hs1
 rintro _ f w ⟨i, rfl, p0, p1, hG⟩ hF hs3
 refine WC.sub _ (hG.app hF) ?_
 clear hG hF
 refine WC.r1 hs3 [] rfl (WC.seq (fun K4 hK4 => ?_))
 refine WC.cq rfl (fun h5 qh5 => ?_) (fun h5 qh5 => ?_)
 ·refine WC.skip (hK4 _ _ (WC.seq (fun K6 hK6 => WC.block (WC.sr (WL.r 1 hs3 [] rfl ?_)))))
  refine WL.val rfl rfl rfl (Run.idxN Tryz.runUnderlying26 Tryz.sizeOf3 rfl rfl rfl ?_ ?_ ?_) ?_
  · exact SlF.some_ (SlF.st0 f_l hs3)
  · omega
  · omega
  refine WL.val rfl rfl rfl (Run.load Tryz.isAgg3 rfl rfl (SlF.one1 (SlF.st0 f_l hs3) ?_ rfl)) ?_
  · omega
  refine WL.r 2 hs3 [] rfl (WL.nil (WC.sr (WL.r 3 hs3 [] rfl (WL.cl Tryz.call23 rfl (k1_ _ _ _ _) ?_))))
  rintro _ whs7 ⟨rfl, hs7⟩
  replace hs7 := hs3.call0 hs7
  refine ⟨_, rfl, WL.r 2 hs7 [] rfl ?_⟩
  apply WL.gO 11 Acts.nil hs7 rfl
  ·intro g8 J9
   have qg8 := g8
   try simp only [bf, within_iff, within_not] at qg8
   refine WL.runA tbk 3 (Acts.nil.cons (j := 5) rfl g8) hs7 [] rfl trivial ?_
   apply WL.gA 7 (Acts.nil.cons (j := 5) rfl g8) hs7 rfl
   ·intro g10 J11
    have qg10 := g10
    try simp only [bf, within_iff, within_not] at qg10
    refine WL.runA tbk 3 (Acts.nil.cons (j := 8) rfl g10) hs7 [] rfl ⟨by omega, trivial⟩ (WL.val (wantT rfl g10) rfl rfl (Run.idxK (i - 1) Tryz.runUnderlying26 Tryz.sizeOf3 rfl rfl rfl ?_ ?_ ?_) ?_)
    · exact SlF.some_ (SlF.st0 f_l hs7)
    · omega
    · omega
    refine WL.val (wantT rfl g10) rfl rfl (Run.load Tryz.isAgg3 rfl rfl (SlF.one1 (SlF.st0 f_l hs7) ?_ rfl)) ?_
    · omega
    refine WL.runA tbk 2 (Acts.nil.cons (j := 8) rfl g10) hs7 [] rfl trivial (WL.eA 7 (Acts.nil.cons (j := 5) rfl g8) J11 hs7 g10 rfl rfl)
   intro _ hs12
   exact WL.eO 4 Acts.nil J9 hs12 g8 rfl rfl
  intro _ hs13
  refine WL.nil (WC.cq rfl (fun h14 qh14 => ?_) (fun h14 qh14 => ?_))
  ·have ha : ascAt l lo hi i = false := by unfold ascAt; have h9 := h14; simp only [iat]; cases hw_ : within (gat encI l i) lo hi <;> rw [hw_] at h9 <;> simp at h9 ⊢ <;> omega
   refine WC.r1 hs13 [] rfl (WC.ret (ibR (tkR (tkR (ibR (tkR ?_))))))
   clear hK6 hK2
   refine rtv rfl rfl hs13 ?_
   rw [isAsc_not (by rw [f_l.len]; omega) ha]
  have ha : ascAt l lo hi i = true := by unfold ascAt; have h9 := h14; simp only [iat]; cases hw_ : within (gat encI l i) lo hi <;> rw [hw_] at h9 <;> simp at h9 ⊢ <;> omega
  refine WC.skip (hK6 _ _ (WC.region (WL.r 2 hs13 [] rfl (WL.nil (tkN ?_)))))
  refine ⟨sbF rfl, hs13, _, ?_, i + 1, rfl, ?_, ?_, ⟨rfl, trivial⟩⟩
  · omega
  · omega
  · intro j hj; rcases Nat.lt_or_ge j i with h_ | h_
    · exact p1 j h_
    · obtain rfl : j = i := by omega
      exact ha
 refine WC.exit (hK2 _ _ (WC.r1 hs3 [] rfl (WC.ret (rtv rfl rfl hs3 ?_))))
 rw [isAsc_all (fun j hj => p1 j (by rw [f_l.len] at hj; omega))]
theorem k36_ (r : RowR) (w : World) (f_r : okRowR 549755813888 w r) :
    Calls Tryz.prog 107 #[.agg #[.slice r.Cells.A r.Cells.n r.Cells.c]] w fun e w' => e = .returned (.bool (!rowOk r.dat)) ∧ St w [] [] w' := by
 have nb_r_Cells := f_r.Cells_n
 have nl_r_Cells := f_r.Cells.len
 refine enter 14 Tryz.func107 rfl Tryz.ntmps107 rfl rfl ?_
 have hs1 := St.init w
 refine WC.sr (WL.bx hs1 rfl (fun b2 _ hs3 => WL.r 1 hs3 [] rfl (WL.nil (WC.sr (WL.r 3 hs3 [0] rfl (WL.cl Tryz.call23 rfl (k1_ _ _ _ _) ?_))))))
 rintro _ whs4 ⟨rfl, hs4⟩
 replace hs4 := hs3.call0 hs4
 refine ⟨_, rfl, WL.r 2 hs4 [] rfl ?_⟩
 apply WL.gO 4 Acts.nil hs4 rfl
 ·intro g5 J6
  have qg5 := g5
  try simp only [bf, within_iff, within_not] at qg5
  refine WL.runA tbk 2 (Acts.nil.cons (j := 5) rfl g5) hs4 [0] rfl ⟨rfl, trivial⟩ (WL.call (wantF rfl g5) rfl rfl (Run.call Tryz.call105 rfl rfl rfl) (k11_ _ _ _ _ _ (SlF.st0 f_r.Cells hs4) ?_) ?_)
  · first | assumption | rfl | omega
  rintro _ whs7 ⟨rfl, hs7⟩
  replace hs7 := hs4.call0 hs7
  refine ⟨_, rfl, WL.runA tbk 1 (Acts.nil.cons (j := 5) rfl g5) hs7 [] rfl trivial (WL.eO 4 Acts.nil J6 hs7 g5 rfl rfl)⟩
 intro _ hs8
 refine WL.r 1 hs8 [] rfl (WL.nil (WC.ret (rtv rfl rfl hs8 ?_)))
 rw [show rowOk r.dat = (within (r.Cells.n : Int) 1 120 && cellsOk r.Cells.xs) by unfold rowOk; rw [← nl_r_Cells]; rfl, Bool.not_and]
theorem k37_ (A_s : Option Addr) (n_s c_s : Nat) (s : List RowR) (w : World) (f_s : SlN encRowR (okRowR 549755813888) w A_s n_s s) (hn : n_s ≤ 549755813888) :
    Calls Tryz.prog 142 #[.slice A_s n_s c_s, .func (.func 107) #[] #[]] w fun e w' => e = .returned (.int .i64 (findI (fun r => !rowOk r.dat) s)) ∧ St w [] [] w' := by
 refine enter 19 Tryz.func142 rfl Tryz.ntmps142 rfl rfl ?_
 have hs1 := St.init w
 refine WC.r1 hs1 [] rfl (WC.seq (fun K2 hK2 => WC.r1 hs1 [] rfl (WC.block ?_)))
 refine WC.lS [0, 1, 7] rfl hs1 (fun k_ f w' => ∃ (i : Nat), k_ = n_s - i ∧ (i ≤ n_s) ∧ (∀ j, j < i → (fun r => !rowOk r.dat) (gat encRowR s j) = false) ∧ Sub [(8, .int .i64 i)] f) ((fun (i : Nat) => n_s - i) (0)) ?_ ?_
 ·refine ⟨0, rfl, ?_, ?_, ⟨rfl, trivial⟩⟩
  · exact Nat.zero_le _
  · exact fun j hj => absurd hj (by omega)
 clear hs1
 rintro _ f w ⟨i, rfl, p0, p1, hG⟩ hF hs3
 refine WC.sub _ (hG.app hF) ?_
 clear hG hF
 refine WC.r1 hs3 [] rfl (WC.seq (fun K4 hK4 => ?_))
 refine WC.cond rfl (fun h5 => ?_) (fun h5 => ?_)
 ·have qh5 := h5
  try simp only [decide_eq_true_eq, decide_eq_false_iff_not] at qh5
  refine WC.skip (hK4 _ _ (WC.seq (fun K6 hK6 => WC.block (WC.r1 hs3 [] rfl (WC.sr (WL.r 3 hs3 [] rfl ?_))))))
  refine WL.val rfl rfl rfl (Run.idxN Tryz.runUnderlying32 Tryz.sizeOf93 rfl rfl rfl ?_ ?_ ?_) ?_
  · exact SlF.some_ (SlF.st0 f_s.sl hs3)
  · omega
  · omega
  refine WL.val rfl rfl rfl (Run.loadA Tryz.isAgg93 Tryz.sizeOf93 rfl rfl (SlF.whole (SlF.st0 f_s.sl hs3) ?_)) ?_
  · omega
  refine WL.cl Tryz.call107 rfl (k36_ (gat encRowR s i) _ (okRowR.st0 (SlN.nth f_s (by omega)) hs3)) ?_
  rintro _ whs7 ⟨rfl, hs7⟩
  replace hs7 := hs3.call0 hs7
  refine ⟨_, rfl, WL.nil (WC.cond rfl (fun h8 => ?_) (fun h8 => ?_))⟩
  ·have qh8 := h8
   try simp only [decide_eq_true_eq, decide_eq_false_iff_not] at qh8
   refine WC.r1 hs7 [] rfl (WC.ret (ibR (tkR (tkR (ibR (tkR ?_))))))
   clear hK6 hK2
   refine rtv rfl rfl hs7 ?_
   rw [findI_some (F := encRowR) (by rw [f_s.len]; omega) p1 h8]
  have qh8 := h8
  try simp only [decide_eq_true_eq, decide_eq_false_iff_not] at qh8
  refine WC.skip (hK6 _ _ (WC.region (WL.r 2 hs7 [] rfl (WL.nil (tkN ?_)))))
  refine ⟨sbF rfl, hs7, _, ?_, i + 1, rfl, ?_, ?_, ⟨rfl, trivial⟩⟩
  · omega
  · omega
  · intro j hj; rcases Nat.lt_or_ge j i with h_ | h_
    · exact p1 j h_
    · obtain rfl : j = i := by omega
      exact h8
 have qh5 := h5
 try simp only [decide_eq_true_eq, decide_eq_false_iff_not] at qh5
 refine WC.exit (hK2 _ _ (WC.r1 hs3 [] rfl (WC.ret (rtv rfl rfl hs3 ?_))))
 rw [findI_none (F := encRowR) (fun j hj => p1 j (by rw [f_s.len] at hj; omega))]
theorem k38_ (A_s : Option Addr) (n_s c_s : Nat) (s : List RowR) (w : World) (f_s : SlN encRowR (okRowR 549755813888) w A_s n_s s) (hn : n_s ≤ 549755813888) :
    Calls Tryz.prog 106 #[.slice A_s n_s c_s, .func (.func 107) #[] #[]] w fun e w' => e = .returned (.bool (decide (0 ≤ findI (fun r => !rowOk r.dat) s))) ∧ St w [] [] w' := by
 refine enter 9 Tryz.func106 rfl Tryz.ntmps106 rfl rfl ?_
 have hs1 := St.init w
 refine WC.r1 hs1 [] rfl (WC.sr (WL.r 2 hs1 [] rfl (WL.cl Tryz.call142 rfl (k37_ _ _ _ _ _ (SlN.st0 okRowR.st0 f_s hs1) ?_) ?_)))
 · first | assumption | rfl | omega
 rintro _ whs2 ⟨rfl, hs2⟩
 replace hs2 := hs1.call0 hs2
 refine ⟨_, rfl, WL.r 2 hs2 [] rfl (WL.nil (WC.ret (rtv rfl rfl hs2 ?_)))⟩
 rfl
theorem k39_ (A_b : Option Addr) (n_b c_b : Nat) (b : List RowR) (l : Int) (w : World) (f_b : SlN encRowR (okRowR 549755813888) w A_b n_b b) (hn : n_b ≤ 549755813888) :
    Calls Tryz.prog 66 #[.slice A_b n_b c_b, i64 l] w fun e w' => e = .returned (.bool (backOk (b.map RowR.dat) l)) ∧ St w [] [] w' := by
 refine enter 14 Tryz.func66 rfl Tryz.ntmps66 rfl rfl ?_
 have hs1 := St.init w
 refine WC.r1 hs1 [] rfl (WC.sr (WL.r 5 hs1 [] rfl ?_))
 apply WL.gA 3 Acts.nil hs1 rfl
 ·intro g2 J3
  have qg2 := g2
  try simp only [bf, within_iff, within_not] at qg2
  refine WL.runA tbk 1 (Acts.nil.cons (j := 4) rfl g2) hs1 [] rfl trivial (WL.call (wantT rfl g2) rfl rfl (Run.call Tryz.call106 rfl rfl rfl) (k38_ _ _ _ _ _ (SlN.st0 okRowR.st0 f_b hs1) ?_) ?_)
  · first | assumption | rfl | omega
  rintro _ whs4 ⟨rfl, hs4⟩
  replace hs4 := hs1.call0 hs4
  refine ⟨_, rfl, WL.runA tbk 1 (Acts.nil.cons (j := 4) rfl g2) hs4 [] rfl trivial (WL.eA 3 Acts.nil J3 hs4 g2 rfl rfl)⟩
 intro _ hs5
 refine WL.r 1 hs5 [] rfl (WL.nil (WC.ret (rtv rfl rfl hs5 ?_)))
 unfold backOk; rw [List.length_map, f_b.len, List.all_map, ← all_find]; rfl
set_option maxHeartbeats 4000000 in
theorem k40_ (s : ScrR) (w : World) (f_s : okScrR 549755813888 w s) :
    Calls Tryz.prog 33 #[.agg (cScr s).toArray] w fun e w' => e = .returned (.bool (scrOk s.dat)) ∧ St w [] [] w' := by
 have nb_s_Main_Cells := f_s.Main.Cells_n
 have nl_s_Main_Cells := f_s.Main.Cells.len
 have nb_s_Alt_Cells := f_s.Alt.Cells_n
 have nl_s_Alt_Cells := f_s.Alt.Cells.len
 have nb_s_Tabs := f_s.Tabs_n
 have nl_s_Tabs := f_s.Tabs.len
 have nb_s_Back := f_s.Back_n
 have nl_s_Back := f_s.Back.sl.len
 have hlit : ∀ y, y ∈ [s.Main, s.Alt] → okGridR 549755813888 w y := by intro y hy; simp only [List.mem_cons, List.not_mem_nil, or_false] at hy; rcases hy with rfl | rfl; exact f_s.Main; exact f_s.Alt
 refine enter 122 Tryz.func33 rfl Tryz.ntmps33 rfl rfl ?_
 have hs1 := St.init w
 refine WC.sr (WL.bx hs1 rfl (fun b2 _ hs3 => WL.r 1 hs3 [] rfl (WL.nil (WC.seq (fun K4 hK4 => WC.sr (WL.r 4 hs3 [0, 0] rfl (WL.buildF (F := encGridR) hs3 ([s.Main, s.Alt]) Tryz.runUnderlying100 Tryz.sizeOf31 Tryz.zeroValue31 rfl rfl rfl rfl rfl rfl rfl rfl rfl rfl rfl rfl (fun A8 c9 L5 whs6 hs6 ho7 => ?_))))))))
 replace hs6 := St.back [_] hs6
 refine WL.r 2 hs6 [] rfl (WL.nil (WC.block (WC.lS [1, 9, 10] rfl hs6 (fun k_ f w' => ∃ (i : Nat), k_ = 2 - i ∧ (i ≤ 2) ∧ (∀ j, j < i → gridFit (GridR.dat (gat encGridR [s.Main, s.Alt] j)) s.W s.H = true) ∧ Sub [(11, .int .i64 i)] f) ((fun (i : Nat) => 2 - i) (0)) ?_ ?_)))
 ·refine ⟨0, rfl, ?_, ?_, ⟨rfl, trivial⟩⟩
  · omega
  · exact fun j hj => absurd hj (by omega)
 clear hs6
 rintro _ f w ⟨i, rfl, p0, p1, hG⟩ hF hs10
 refine WC.sub _ (hG.app hF) ?_
 clear hG hF
 refine WC.r1 hs10 [] rfl (WC.seq (fun K11 hK11 => ?_))
 refine WC.cq rfl (fun h12 qh12 => ?_) (fun h12 qh12 => ?_)
 ·have hi2 : i < 2 := by have h8 := h12; simp at h8; omega
  refine WC.skip (hK11 _ _ (WC.seq (fun K13 hK13 => WC.block (WC.sr ?_))))
  refine WL.val rfl rfl rfl (Run.idxN Tryz.runUnderlying100 Tryz.sizeOf31 rfl rfl rfl ?_ ?_ ?_) ?_
  · exact SlF.some_ (SlF.ofOwn ho7 (hs10.ow L5))
  · first | omega | (simp; omega)
  · first | omega | (simp; omega)
  refine WL.val rfl rfl rfl (Run.loadA Tryz.isAgg31 Tryz.sizeOf31 rfl rfl (SlF.whole (SlF.ofOwn ho7 (hs10.ow L5)) ?_)) ?_
  · first | omega | (simp; omega)
  refine WL.al hs10 Tryz.zeroValue31 rfl rfl (fun b14 _ hs15 => WL.st tbk hs15 0 rfl rfl (fun _ hs16 => WL.nil (WC.sr (WL.r 1 hs16 [0] rfl ?_))))
  refine WL.cl Tryz.call63 rfl (k33_ (gat encGridR [s.Main, s.Alt] i) _ (okGridR.st0 (hlit _ (gat_mem (by first | omega | (simp; omega)))) hs16)) ?_
  rintro _ whs17 ⟨rfl, hs17⟩
  replace hs17 := hs16.call0 hs17
  refine ⟨_, rfl, WL.r 2 hs17 [] rfl (WL.pO tbk 5 Acts.nil hs17 [0, 1] rfl rfl rfl rfl (fun g_ => ⟨rfl, rfl, trivial⟩) (WL.r 1 hs17 [] rfl (WL.pO tbk 5 Acts.nil hs17 [0, 1] rfl rfl rfl rfl (fun g_ => ⟨rfl, rfl, trivial⟩) (WL.nil (WC.cq rfl (fun h18 qh18 => ?_) (fun h18 qh18 => ?_))))))⟩
  ·have ha : gridFit (GridR.dat (gat encGridR [s.Main, s.Alt] i)) s.W s.H = false := by unfold gridFit; have h9 := h18; show (gridOk (GridR.dat (gat encGridR [s.Main, s.Alt] i)) && (decide ((gat encGridR [s.Main, s.Alt] i).W = s.W) && decide ((gat encGridR [s.Main, s.Alt] i).H = s.H))) = false; revert h9; cases gridOk (GridR.dat (gat encGridR [s.Main, s.Alt] i)) <;> cases decide ((gat encGridR [s.Main, s.Alt] i).W = s.W) <;> cases decide ((gat encGridR [s.Main, s.Alt] i).H = s.H) <;> simp
   have hp1 : scrP1 s.dat = false := by unfold scrP1; rcases (show i = 0 ∨ i = 1 by omega) with rfl | rfl; (rw [show gridFit s.dat.Main s.dat.W s.dat.H = false from ha]; rfl); (rw [show gridFit s.dat.Alt s.dat.W s.dat.H = false from ha, Bool.and_false])
   refine WC.r1 hs17 [] rfl (WC.ret (ibR (tkR (tkR (ibR (tkR ?_))))))
   clear hK13 hK4
   refine rtv rfl rfl hs17 ?_
   rw [scrOk_no (.inl hp1)]
  have ha : gridFit (GridR.dat (gat encGridR [s.Main, s.Alt] i)) s.W s.H = true := by unfold gridFit; have h9 := h18; show (gridOk (GridR.dat (gat encGridR [s.Main, s.Alt] i)) && (decide ((gat encGridR [s.Main, s.Alt] i).W = s.W) && decide ((gat encGridR [s.Main, s.Alt] i).H = s.H))) = true; revert h9; cases gridOk (GridR.dat (gat encGridR [s.Main, s.Alt] i)) <;> cases decide ((gat encGridR [s.Main, s.Alt] i).W = s.W) <;> cases decide ((gat encGridR [s.Main, s.Alt] i).H = s.H) <;> simp
  refine WC.skip (hK13 _ _ (WC.region (WL.r 2 hs17 [] rfl (WL.nil (tkN ?_)))))
  refine ⟨sbF rfl, (hs17.drop (by repeat (first | exact List.Sublist.refl _ | exact List.sublist_append_left _ _ | exact List.Sublist.trans (List.sublist_append_left _ _) (List.sublist_append_left _ _) | apply List.Sublist.cons | refine List.Sublist.trans ?_ (sR _)))), _, ?_, i + 1, rfl, ?_, ?_, ⟨rfl, trivial⟩⟩
  · omega
  · omega
  · intro j hj; rcases Nat.lt_or_ge j i with h_ | h_
    · exact p1 j h_
    · obtain rfl : j = i := by omega
      exact ha
 have hi2 : ¬ i < 2 := by have h8 := h12; simp at h8; omega
 have hp1 : scrP1 s.dat = true := by unfold scrP1; rw [show gridFit s.dat.Main s.dat.W s.dat.H = true from p1 0 (by omega), show gridFit s.dat.Alt s.dat.W s.dat.H = true from p1 1 (by omega)]; rfl
 have hbn : (1 ≤ s.W ∧ s.W ≤ 120) ∧ (1 ≤ s.H ∧ s.H ≤ 120) ∧ s.Main.W = s.W ∧ s.Main.H = s.H ∧ s.Alt.W = s.W ∧ s.Alt.H = s.H := scrP1_bnd hp1
 refine WC.exit (hK4 _ _ (WC.seq (fun K19 hK19 => WC.sr (WL.r 6 hs10 [0, 0, 0] rfl ?_))))
 refine WL.cl Tryz.call64 rfl (k34_ s.Main _ _ _ (okGridR.st0 f_s.Main hs10) ?_ ?_) ?_
 iterate 2 first | assumption | rfl | omega
 rintro _ whs20 ⟨rfl, hs20⟩
 replace hs20 := hs10.call0 hs20
 refine ⟨_, rfl, WL.r 2 hs20 [] rfl ?_⟩
 apply WL.gO 8 Acts.nil hs20 rfl
 ·intro g21 J22
  have qg21 := g21
  try simp only [bf, within_iff, within_not] at qg21
  refine WL.runA tbk 6 (Acts.nil.cons (j := 8) rfl g21) hs20 [0, 0, 0] rfl ⟨rfl, rfl, rfl, trivial⟩ (WL.call (wantF rfl g21) rfl rfl (Run.call Tryz.call64 rfl rfl rfl) (k34_ s.Main _ _ _ (okGridR.st0 f_s.Main hs20) ?_ ?_) ?_)
  iterate 2 first | assumption | rfl | omega
  rintro _ whs23 ⟨rfl, hs23⟩
  replace hs23 := hs20.call0 hs23
  refine ⟨_, rfl, WL.runA tbk 1 (Acts.nil.cons (j := 8) rfl g21) hs23 [] rfl trivial (WL.eO 8 Acts.nil J22 hs23 g21 rfl rfl)⟩
 intro _ hs24
 refine WL.r 1 hs24 [] rfl ?_
 apply WL.gO 10 Acts.nil hs24 rfl
 ·intro g25 J26
  have qg25 := g25
  try simp only [bf, within_iff, within_not] at qg25
  refine WL.runA tbk 3 (Acts.nil.cons (j := 18) rfl g25) hs24 [0] rfl ⟨rfl, trivial⟩ ?_
  refine WL.pA tbk 6 (Acts.nil.cons (j := 18) rfl g25) hs24 [0, 0] rfl rfl rfl rfl (fun g_ => by (try simp only [bf, within_iff, within_not] at g_); exact ⟨by omega, rfl, rfl, trivial⟩) (WL.eO 4 Acts.nil J26 hs24 g25 rfl rfl)
 intro _ hs27
 refine WL.r 1 hs27 [] rfl ?_
 apply WL.gO 4 Acts.nil hs27 rfl
 ·intro g28 J29
  have qg28 := g28
  try simp only [bf, within_iff, within_not] at qg28
  refine WL.runA tbk 2 (Acts.nil.cons (j := 30) rfl g28) hs27 [0] rfl ⟨rfl, trivial⟩ (WL.call (wantF rfl g28) rfl rfl (Run.call Tryz.call10 rfl rfl rfl) (k4_ _ _ _ _ _ _) ?_)
  rintro _ whs30 ⟨rfl, hs30⟩
  replace hs30 := hs27.call0 hs30
  refine ⟨_, rfl, WL.runA tbk 1 (Acts.nil.cons (j := 30) rfl g28) hs30 [] rfl trivial (WL.eO 4 Acts.nil J29 hs30 g28 rfl rfl)⟩
 intro _ hs31
 refine WL.r 1 hs31 [] rfl ?_
 apply WL.gO 4 Acts.nil hs31 rfl
 ·intro g32 J33
  have qg32 := g32
  try simp only [bf, within_iff, within_not] at qg32
  refine WL.runA tbk 2 (Acts.nil.cons (j := 36) rfl g32) hs31 [0] rfl ⟨rfl, trivial⟩ (WL.call (wantF rfl g32) rfl rfl (Run.call Tryz.call10 rfl rfl rfl) (k4_ _ _ _ _ _ _) ?_)
  rintro _ whs34 ⟨rfl, hs34⟩
  replace hs34 := hs31.call0 hs34
  refine ⟨_, rfl, WL.runA tbk 1 (Acts.nil.cons (j := 36) rfl g32) hs34 [] rfl trivial (WL.eO 4 Acts.nil J33 hs34 g32 rfl rfl)⟩
 intro _ hs35
 refine WL.nil (WC.cq rfl (fun h36 qh36 => ?_) (fun h36 qh36 => ?_))
 ·have hp2 : scrP2 s.dat = false := by have h9 := h36; unfold scrP2; show (((gridHas s.Main.dat s.X s.Y && gridHas s.Main.dat s.SaveX s.SaveY) && ((!s.Wrap || decide (s.X = s.W - 1)) && (attrOk s.A.Fg s.A.Bg && attrOk s.SaveA.Fg s.SaveA.Bg)))) = false; revert h9; cases gridHas s.Main.dat s.X s.Y <;> cases gridHas s.Main.dat s.SaveX s.SaveY <;> cases s.Wrap <;> cases decide (s.X = s.W - 1) <;> cases attrOk s.A.Fg s.A.Bg <;> cases attrOk s.SaveA.Fg s.SaveA.Bg <;> simp
  refine WC.r1 hs35 [] rfl (WC.ret (tkR ?_))
  clear hK19
  refine rtv rfl rfl hs35 ?_
  rw [scrOk_no (.inr (.inl hp2))]
 have hp2 : scrP2 s.dat = true := by have h9 := h36; unfold scrP2; show (((gridHas s.Main.dat s.X s.Y && gridHas s.Main.dat s.SaveX s.SaveY) && ((!s.Wrap || decide (s.X = s.W - 1)) && (attrOk s.A.Fg s.A.Bg && attrOk s.SaveA.Fg s.SaveA.Bg)))) = true; revert h9; cases gridHas s.Main.dat s.X s.Y <;> cases gridHas s.Main.dat s.SaveX s.SaveY <;> cases s.Wrap <;> cases decide (s.X = s.W - 1) <;> cases attrOk s.A.Fg s.A.Bg <;> cases attrOk s.SaveA.Fg s.SaveA.Bg <;> simp
 refine WC.skip (hK19 _ _ (WC.seq (fun K37 hK37 => WC.sr (WL.r 4 hs35 [0] rfl (WL.pO tbk 5 Acts.nil hs35 [0, 0] rfl rfl rfl rfl (fun g_ => ⟨rfl, rfl, trivial⟩) (WL.r 1 hs35 [] rfl (WL.pO tbk 5 Acts.nil hs35 [0, 0] rfl rfl rfl rfl (fun g_ => ⟨rfl, rfl, trivial⟩) ?_)))))))
 refine WL.r 1 hs35 [] rfl ?_
 apply WL.gO 10 Acts.nil hs35 rfl
 ·intro g38 J39
  have qg38 := g38
  try simp only [bf, within_iff, within_not] at qg38
  refine WL.runA tbk 6 (Acts.nil.cons (j := 17) rfl g38) hs35 [0, 0] rfl ⟨rfl, rfl, trivial⟩ (WL.pA tbk 3 (Acts.nil.cons (j := 17) rfl g38) hs35 [0] rfl rfl rfl rfl (fun g_ => ⟨rfl, trivial⟩) (WL.eO 7 Acts.nil J39 hs35 g38 rfl rfl))
 intro _ hs40
 refine WL.nil (WC.cq rfl (fun h41 qh41 => ?_) (fun h41 qh41 => ?_))
 ·have hp3 : scrP3 s.dat = false := by have h9 := h41; unfold scrP3; show ((decide (0 ≤ s.Top) && decide (s.Top ≤ s.Bot)) && (decide (s.Bot < s.H) && (!decide (s.Top = s.Bot) || decide (s.H = 1)))) = false; simp at h9 ⊢; omega
  refine WC.r1 hs40 [] rfl (WC.ret (tkR ?_))
  clear hK37
  refine rtv rfl rfl hs40 ?_
  rw [scrOk_no (.inr (.inr (.inl hp3)))]
 have hp3 : scrP3 s.dat = true := by have h9 := h41; unfold scrP3; show ((decide (0 ≤ s.Top) && decide (s.Top ≤ s.Bot)) && (decide (s.Bot < s.H) && (!decide (s.Top = s.Bot) || decide (s.H = 1)))) = true; simp at h9 ⊢; omega
 refine WC.skip (hK37 _ _ (WC.sr (WL.r 5 hs40 [0, 0] rfl ?_)))
 refine WL.cl Tryz.call65 rfl (k35_ _ _ _ _ _ _ _ (SlF.st0 f_s.Tabs hs40) ?_) ?_
 · first | assumption | rfl | omega
 rintro _ whs42 ⟨rfl, hs42⟩
 replace hs42 := hs40.call0 hs42
 refine ⟨_, rfl, WL.r 1 hs42 [] rfl ?_⟩
 apply WL.gA 3 Acts.nil hs42 rfl
 ·intro g43 J44
  have qg43 := g43
  try simp only [bf, within_iff, within_not] at qg43
  refine WL.runA tbk 2 (Acts.nil.cons (j := 6) rfl g43) hs42 [0] rfl ⟨rfl, trivial⟩ (WL.call (wantT rfl g43) rfl rfl (Run.call Tryz.call23 rfl rfl rfl) (k1_ _ _ _ _) ?_)
  rintro _ whs45 ⟨rfl, hs45⟩
  replace hs45 := hs42.call0 hs45
  refine ⟨_, rfl, WL.eA 3 Acts.nil J44 hs45 g43 rfl rfl⟩
 intro _ hs46
 refine WL.r 1 hs46 [] rfl ?_
 apply WL.gA 5 Acts.nil hs46 rfl
 ·intro g47 J48
  have qg47 := g47
  try simp only [bf, within_iff, within_not] at qg47
  refine WL.runA tbk 4 (Acts.nil.cons (j := 11) rfl g47) hs46 [0, 0] rfl ⟨rfl, rfl, trivial⟩ (WL.call (wantT rfl g47) rfl rfl (Run.call Tryz.call66 rfl rfl rfl) (k39_ _ _ _ _ _ _ (SlN.st0 okRowR.st0 f_s.Back hs46) ?_) ?_)
  · first | assumption | rfl | omega
  rintro _ whs49 ⟨rfl, hs49⟩
  replace hs49 := hs46.call0 hs49
  refine ⟨_, rfl, WL.eA 5 Acts.nil J48 hs49 g47 rfl rfl⟩
 intro _ hs50
 refine WL.r 1 hs50 [] rfl (WL.nil (WC.ret (rtv rfl rfl hs50 ?_)))
 rw [scrOk_yes hp1 hp2 hp3]; rfl
end Go.Proofs.YtgigdjgjmfekkaaGreatDoor
