/- Terminals as bytes. -/
import Derived.Test.YtlmcekfdlgkffaaM14
namespace Go.Proofs.Ytlmcekfdlgkffaa
open Go Go.RowKit
set_option linter.unusedVariables false
set_option linter.unusedSimpArgs false
def partI (l : List UInt8) : List Int := l.map fun b => (b.toNat : Int)
theorem partI_take {l : List UInt8} {i : Nat} (h : i < l.length) : partI (l.take (i + 1)) = partI (l.take i) ++ [((gat encB l i).toNat : Int)] := by
  unfold partI
  rw [List.take_add_one, gat_get (F := encB) h, List.map_append]
  rfl
theorem numsL_append (a b : List Int) : numsL (a ++ b) = numsL a ++ numsL b := by unfold numsL; rw [List.flatMap_append]
theorem numsL_one (x : Int) : numsL [x] = varL x.toNat := by simp [numsL]
def bitI (b : Bool) (k : Int) : Int := if b = true then k else 0
theorem bitI_bnd {b : Bool} {k : Int} (h : 0 ≤ k) : 0 ≤ bitI b k ∧ bitI b k ≤ k := by unfold bitI; split <;> omega
def flagsI (a b c d e : Bool) : Int := bitI a 1 + bitI b 2 + bitI c 4 + bitI d 8 + bitI e 16
def flagsL (l : List Bool) : Int := l.foldr (fun b r => r * 2 + bitI b 1) 0
theorem flagsL_bnd : ∀ l : List Bool, 0 ≤ flagsL l ∧ flagsL l + 1 ≤ 2 ^ l.length
  | [] => by simp [flagsL]
  | b :: r => by
    have h := flagsL_bnd r
    have h1 : 0 ≤ bitI b 1 ∧ bitI b 1 ≤ 1 := bitI_bnd (by decide)
    have e : flagsL (b :: r) = flagsL r * 2 + bitI b 1 := rfl
    rw [e, List.length_cons, Int.pow_succ]
    omega
theorem flagsL_le {l : List Bool} (h : l.length ≤ 5) : 0 ≤ flagsL l ∧ flagsL l ≤ 31 := by
  have h1 := flagsL_bnd l
  have h2 : l.length = 0 ∨ l.length = 1 ∨ l.length = 2 ∨ l.length = 3 ∨ l.length = 4 ∨ l.length = 5 := by omega
  rcases h2 with h2 | h2 | h2 | h2 | h2 | h2 <;> rw [h2] at h1 <;> omega
theorem flagsL_drop {l : List Bool} {i : Nat} (h : i < l.length) : flagsL (l.drop i) = flagsL (l.drop (i + 1)) * 2 + bitI (gat encT l i) 1 := by
  rw [List.drop_eq_getElem_cons h]
  have e : gat encT l i = l[i] := by have := gat_get (F := encT) h; rw [List.getElem?_eq_getElem h] at this; exact (Option.some.inj this).symm
  rw [e]; rfl
theorem flagsL_5 (a b c d e : Bool) : flagsL [a, b, c, d, e] = flagsI a b c d e := by
  cases a <;> cases b <;> cases c <;> cases d <;> cases e <;> rfl
theorem attrNum_bnd {a : AttrD} (h : attrOk a.Fg a.Bg = true) : 0 ≤ attrNum a ∧ attrNum a ≤ 647 := by
  have := cellOk_bounds (c := ⟨32, a⟩) (by unfold cellOk; rw [h]; rfl)
  exact this.2.2.2
def headL (t : TermD) : List Int := [t.S.W, t.S.H, flagsI t.S.OnAlt t.S.Wrap t.S.NoWrap t.S.Hide t.P.Mark, t.S.X, t.S.Y, attrNum t.S.A, t.S.Top, t.S.Bot, t.S.SaveX, t.S.SaveY, attrNum t.S.SaveA, t.S.Limit, t.P.State]
def rowsL (b : List RowD) : List UInt8 := b.flatMap fun r => varL r.Cells.length ++ cellsB r.Cells
def termL (t : TermD) : List UInt8 := numsL (headL t) ++ varL t.P.Args.length ++ numsL t.P.Args ++ varL t.P.Part.length ++ numsL (partI t.P.Part) ++ varL t.S.Tabs.length ++ numsL t.S.Tabs ++ cellsB t.S.Main.Cells ++ cellsB t.S.Alt.Cells ++ varL t.S.Back.length ++ rowsL t.S.Back
def termFine (t : TermD) : Bool := termOk t && decide ((termL t).length ≤ 40000)
def termOut (t : TermD) : List UInt8 := if termFine t = true then termL t else []
theorem termOut_len (t : TermD) : (termOut t).length ≤ 40000 := by
  unfold termOut
  split
  · rename_i h
    unfold termFine at h
    rw [Bool.and_eq_true, decide_eq_true_eq] at h
    exact h.2
  · exact Nat.zero_le _
theorem termOk_P {t : TermD} (h : termOk t = true) : vpOk t.P = true ∧ scrOk t.S = true := by
  unfold termOk at h
  rwa [Bool.and_eq_true] at h
theorem vpOk_bnd {v : VpD} (h : vpOk v = true) : (0 ≤ v.State ∧ v.State ≤ 3) ∧ v.Args.length ≤ 8 ∧ ∀ x, x ∈ v.Args → 0 ≤ x ∧ x ≤ 9999 := by
  unfold vpOk at h
  split at h
  · simp only [Bool.and_eq_true, decide_eq_true_eq] at h
    have h0 : v.Args = [] := List.eq_nil_of_length_eq_zero h.1.2
    rw [h0]
    exact ⟨by omega, by simp, by simp⟩
  · split at h
    · simp only [Bool.and_eq_true, decide_eq_true_eq] at h
      have h0 : v.Args = [] := List.eq_nil_of_length_eq_zero h.1.2
      rw [h0]
      exact ⟨by omega, by simp, by simp⟩
    · split at h
      · rename_i h3
        unfold areArgs at h
        simp only [Bool.and_eq_true, decide_eq_true_eq, List.all_eq_true, within_iff] at h
        exact ⟨by omega, h.1.1, fun x hx => h.1.2 x hx⟩
      · cases h
theorem scrOk_attr {s : ScrD} (h : scrOk s = true) : attrOk s.A.Fg s.A.Bg = true ∧ attrOk s.SaveA.Fg s.SaveA.Bg = true := by
  have h2 := (scrOk_P h).2.1
  unfold scrP2 at h2
  simp only [Bool.and_eq_true] at h2
  exact h2.2.2
theorem scrOk_tabs {s : ScrD} (h : scrOk s = true) : ∀ x, x ∈ s.Tabs → 0 ≤ x ∧ x ≤ 119 := by
  have h2 := (scrOk_P h).2.2.2.2.1
  have h3 := (scrOk_bnd h).1
  unfold isAsc at h2
  rw [List.all_eq_true] at h2
  intro x hx
  obtain ⟨i, hi, rfl⟩ := List.mem_iff_getElem.1 hx
  have h4 := h2 i (List.mem_range.2 hi)
  unfold ascAt at h4
  rw [Bool.and_eq_true, within_iff] at h4
  have e : iat s.Tabs i = s.Tabs[i] := by have := gat_get (F := encI) hi; rw [List.getElem?_eq_getElem hi] at this; exact (Option.some.inj this).symm
  rw [e] at h4
  omega
theorem headL_bnd {t : TermD} (h : termOk t = true) : ∀ x, x ∈ headL t → 0 ≤ x ∧ x ≤ 100000 := by
  obtain ⟨h1, h2⟩ := termOk_P h
  have hv := (vpOk_bnd h1).1
  obtain ⟨b1, b2, b3, b4, b5, b6⟩ := scrOk_bnd h2
  obtain ⟨a1, a2⟩ := scrOk_attr h2
  have n1 := attrNum_bnd a1
  have n2 := attrNum_bnd a2
  have f1 : 0 ≤ bitI t.S.OnAlt 1 ∧ bitI t.S.OnAlt 1 ≤ 1 := bitI_bnd (by decide)
  have f2 : 0 ≤ bitI t.S.Wrap 2 ∧ bitI t.S.Wrap 2 ≤ 2 := bitI_bnd (by decide)
  have f3 : 0 ≤ bitI t.S.NoWrap 4 ∧ bitI t.S.NoWrap 4 ≤ 4 := bitI_bnd (by decide)
  have f4 : 0 ≤ bitI t.S.Hide 8 ∧ bitI t.S.Hide 8 ≤ 8 := bitI_bnd (by decide)
  have f5 : 0 ≤ bitI t.P.Mark 16 ∧ bitI t.P.Mark 16 ≤ 16 := bitI_bnd (by decide)
  intro x hx
  simp only [headL, flagsI, List.mem_cons, List.not_mem_nil, or_false] at hx
  rcases hx with rfl | rfl | rfl | rfl | rfl | rfl | rfl | rfl | rfl | rfl | rfl | rfl | rfl <;> omega
theorem partI_bnd {l : List UInt8} : ∀ x, x ∈ partI l → 0 ≤ x ∧ x ≤ 255 := by
  intro x hx
  obtain ⟨b, _, rfl⟩ := List.mem_map.1 hx
  have := b.toNat_lt
  omega
theorem partI_len {l : List UInt8} : (partI l).length = l.length := by simp [partI]
theorem gridOk_cells {g : GridD} (h : gridOk g = true) : g.Cells.length ≤ 4000 ∧ cellsOk g.Cells = true := by
  have b := gridOk_bnd h
  unfold gridOk at h
  rw [Bool.and_eq_true, Bool.and_eq_true, decide_eq_true_eq] at h
  exact ⟨by omega, h.2⟩
theorem rowOk_cells {r : RowD} (h : rowOk r = true) : r.Cells.length ≤ 120 ∧ cellsOk r.Cells = true := by
  have := rowOk_len h
  unfold rowOk at h
  rw [Bool.and_eq_true] at h
  exact ⟨this, h.2⟩
theorem rowsL_take {b : List RowR} {i : Nat} (h : i < b.length) : rowsL ((b.take (i + 1)).map RowR.dat) = rowsL ((b.take i).map RowR.dat) ++ (varL (gat encRowR b i).Cells.xs.length ++ cellsB (gat encRowR b i).Cells.xs) := by
  unfold rowsL
  rw [List.take_add_one, gat_get (F := encRowR) h, List.map_append, List.flatMap_append]
  simp [RowR.dat]
theorem rowsL_len {b : List RowD} (h : ∀ r, r ∈ b → rowOk r = true) : (rowsL b).length ≤ 1805 * b.length := by
  induction b with
  | nil => simp [rowsL]
  | cons r l ih =>
    have h1 := ih fun q hq => h q (List.mem_cons_of_mem _ hq)
    obtain ⟨h2, h3⟩ := rowOk_cells (h r List.mem_cons_self)
    have h4 := cellsB_len (by omega) h3
    have h5 := varL_len r.Cells.length (by omega)
    have e : rowsL (r :: l) = (varL r.Cells.length ++ cellsB r.Cells) ++ rowsL l := by simp [rowsL]
    rw [e, List.length_append, List.length_append, List.length_cons]
    omega
theorem scrOk_rows {s : ScrD} (h : scrOk s = true) : ∀ r, r ∈ s.Back → rowOk r = true := by
  have := (scrOk_P h).2.2.2.2.2
  rwa [List.all_eq_true] at this
theorem cellsOut_ok {l : List CellD} (h : l.length ≤ 4000) (hc : cellsOk l = true) : cellsOut l = cellsB l := by
  unfold cellsOut cellsFine
  rw [hc, if_pos (by simp; exact h)]

end Go.Proofs.Ytlmcekfdlgkffaa
