/- How much there is of new screens. -/
import Derived.Test.YtlmcekfdlgkffaaD2
import Derived.Test.YtlmcekfdlgkffaaM9
namespace Go.Proofs.Ytlmcekfdlgkffaa
open Go Go.RowKit
set_option linter.unusedVariables false
set_option linter.unusedSimpArgs false
theorem scrRes_tot {w h l : Int} : totScr (scrRes w h l) ≤ 8015 := by
  unfold scrRes
  split
  · rename_i hm
    unfold scrMay at hm
    rw [Bool.and_eq_true] at hm
    obtain ⟨hw, hh, h1, h2⟩ := isSize_bnd hm.1
    have h3 := tabsL_len hw.1
    have h4 : (gridNew w h).Cells.length = (w * h).toNat := List.length_replicate
    show (gridNew w h).Cells.length + (gridNew w h).Cells.length + (tabsL w).length + tots totRow [] ≤ 8015
    have h5 : tots totRow [] = 0 := rfl
    omega
  · show 0 ≤ 8015; omega
theorem termRes_tot {w h l : Int} : totTerm (termRes w h l) ≤ 8015 := by
  have h1 := scrRes_tot (w := w) (h := h) (l := l)
  simp only [totScr] at h1
  simp only [totTerm, termRes, List.length_nil]
  omega

end Go.Proofs.Ytlmcekfdlgkffaa
