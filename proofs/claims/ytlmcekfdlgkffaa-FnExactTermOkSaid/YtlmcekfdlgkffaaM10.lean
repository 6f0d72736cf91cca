/- How long what the parser yields is. -/
import Derived.Test.YtlmcekfdlgkffaaD2
import Derived.Test.YtlmcekfdlgkffaaM7
namespace Go.Proofs.Ytlmcekfdlgkffaa
open Go Go.RowKit
set_option linter.unusedVariables false
set_option linter.unusedSimpArgs false
theorem vpPlain_sm {p : List UInt8} {b : Int} (h : p.length ≤ 1048576) : smVp 1048577 (vpPlain p b).1 ∧ smAct 1048577 (vpPlain p b).2 := by
  unfold vpPlain
  (repeat' split) <;> simp [smVp, smAct] <;> omega
theorem vpCsi_sm {v : VpD} {b : Int} (h : smVp 1048576 v) : smVp 1048577 (vpCsi v b).1 ∧ smAct 1048577 (vpCsi v b).2 := by
  have h1 : v.Args.length ≤ 1048576 := h.1
  have h2 : v.Part.length ≤ 1048576 := h.2
  have h3 : (args1 v.Args).length ≤ 1048576 := by unfold args1; split <;> (try simp) <;> omega
  unfold vpCsi
  have h4 : smVp 1048577 (vpNext v) := by
    unfold vpNext
    split
    · show (((args1 v.Args) ++ [0]).take 8).length ≤ 1048577 ∧ v.Part.length ≤ 1048577
      simp; omega
    · show ((args1 v.Args) ++ [0]).length ≤ 1048577 ∧ v.Part.length ≤ 1048577
      simp; omega
  have h5 : smVp 1048577 (vpDigit v (b - 48)) := by
    show ((args1 v.Args).set _ _).length ≤ 1048577 ∧ v.Part.length ≤ 1048577
    simp only [List.length_set]; omega
  have h6 : smVp 1048577 v := ⟨by omega, by omega⟩
  have h7 : smAct 1048577 act0 := by show 0 ≤ 1048577; omega
  have h8 : smVp 1048577 vp0 := ⟨by show 0 ≤ 1048577; omega, by show 0 ≤ 1048577; omega⟩
  (repeat' split)
  · exact ⟨h6, h7⟩
  · exact ⟨h5, h7⟩
  · exact ⟨h4, h7⟩
  · exact ⟨h8, by show v.Args.length ≤ 1048577; omega⟩
  · exact ⟨h6, by show 0 ≤ 1048577; omega⟩
  · exact ⟨h6, h7⟩
theorem vpStep_sm {v : VpD} {b : Int} (h : smVp 1048576 v) : smVp 1048577 (vpStep v b).1 ∧ smAct 1048577 (vpStep v b).2 := by
  have h1 : v.Args.length ≤ 1048576 := h.1
  have h2 : v.Part.length ≤ 1048576 := h.2
  unfold vpStep
  (repeat' split)
  · simp [smVp, smAct]
  · simp [smVp, smAct]
  · exact vpPlain_sm h2
  · simp [smVp, smAct]
  · simp [smVp, smAct]
  · simp [smVp, smAct]
  · exact vpCsi_sm h
  · simp [smVp, smAct]
  · simp [smVp, smAct]; omega
theorem vpByte_sm {v : VpD} {b : Int} (h : smVp 1048576 v) : smVp 1048577 (vpByte v b).1 ∧ smAct 1048577 (vpByte v b).2 := by
  unfold vpByte
  split
  · exact vpStep_sm h
  · simp [smVp, smAct]
theorem vpStep_act {v : VpD} {b : Int} (h : vpOk v = true) : (vpStep v b).2.Args.length ≤ 8 := by
  have hl := vpOk_len h
  unfold vpStep
  (repeat' split)
  · simp
  · simp
  · unfold vpPlain; (repeat' split) <;> simp
  · simp
  · simp
  · simp
  · unfold vpCsi; (repeat' split) <;> simp <;> omega
  · simp
  · simp
theorem vpParse_act : ∀ {l : List UInt8} {v : VpD}, vpOk v = true → ∀ y, y ∈ (vpParse v l).2 → y.Args.length ≤ 8
  | [], v, h, y, hy => by cases hy
  | x :: r, v, h, y, hy => by
    simp only [vpParse, List.mem_append] at hy
    rcases hy with hy | hy
    · split at hy
      · cases hy
      · rw [List.mem_singleton] at hy
        subst hy
        exact vpStep_act h
    · exact vpParse_act (l := r) (vpStep_ok h) y hy
theorem tots_bnd {α : Type} {f : α → Nat} {m : Nat} : ∀ {l : List α}, (∀ y, y ∈ l → f y ≤ m) → tots f l ≤ (m + 1) * l.length
  | [], _ => by simp [tots]
  | x :: r, h => by
    have h1 := h x List.mem_cons_self
    have h2 := tots_bnd (l := r) (fun y hy => h y (List.mem_cons_of_mem _ hy))
    simp only [tots, List.map_cons, List.sum_cons, List.length_cons] at h2 ⊢
    rw [Nat.mul_add, Nat.mul_one]
    omega
theorem vpBytes_sm {v : VpD} {l : List UInt8} : smVp 8 (vpBytes v l).1 ∧ (∀ y, y ∈ (vpBytes v l).2 → smAct 8 y) ∧ (vpBytes v l).2.length ≤ l.length ∧ tots totAct (vpBytes v l).2 ≤ 9 * l.length := by
  unfold vpBytes
  split
  · rename_i h
    have h1 := vpOk_len (vpParse_ok (l := l) h)
    have h2 := vpParse_act (l := l) h
    have h3 := vpParse_len (l := l) (v := v)
    have h4 := tots_bnd (f := totAct) (m := 8) h2
    exact ⟨⟨h1.1, by omega⟩, h2, h3, by omega⟩
  · exact ⟨⟨by show 0 ≤ 8; omega, by show 0 ≤ 8; omega⟩, (fun y hy => by cases hy), by simp, by simp [tots]⟩

end Go.Proofs.Ytlmcekfdlgkffaa
