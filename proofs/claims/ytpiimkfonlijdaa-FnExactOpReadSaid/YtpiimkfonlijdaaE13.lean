/-
  The engine, part 13: several slices of ours at once.
-/
import Derived.Test.YtpiimkfonlijdaaE12
namespace Go.Proofs.Ytpiimkfonlijdaa
open Go Go.RowKit
set_option linter.unusedVariables false
set_option linter.unusedSimpArgs false

section
variable {w0 w : World} {T : List Nat} {L1 L2 L3 L4 L5 L6 L7 R : Hp}
theorem St.grp0 (A : Hp) (h : St w0 T (A ++ R) w) : St w0 T (A ++ R) w := h
theorem St.grp1 (A : Hp) (h : St w0 T (A ++ (L1 ++ R)) w) : St w0 T ((A ++ L1) ++ R) w := by rwa [List.append_assoc]
theorem St.grp2 (A : Hp) (h : St w0 T (A ++ (L1 ++ (L2 ++ R))) w) : St w0 T ((A ++ (L1 ++ L2)) ++ R) w := by simpa only [List.append_assoc] using h
theorem St.grp3 (A : Hp) (h : St w0 T (A ++ (L1 ++ (L2 ++ (L3 ++ R)))) w) : St w0 T ((A ++ (L1 ++ (L2 ++ L3))) ++ R) w := by simpa only [List.append_assoc] using h
theorem St.grp4 (A : Hp) (h : St w0 T (A ++ (L1 ++ (L2 ++ (L3 ++ (L4 ++ R))))) w) : St w0 T ((A ++ (L1 ++ (L2 ++ (L3 ++ L4)))) ++ R) w := by simpa only [List.append_assoc] using h
theorem St.ungrp0 (A : Hp) (h : St w0 T (A ++ R) w) : St w0 T (A ++ R) w := h
theorem St.ungrp1 (A : Hp) (h : St w0 T ((A ++ L1) ++ R) w) : St w0 T (A ++ (L1 ++ R)) w := by rwa [List.append_assoc] at h
theorem St.ungrp2 (A : Hp) (h : St w0 T ((A ++ (L1 ++ L2)) ++ R) w) : St w0 T (A ++ (L1 ++ (L2 ++ R))) w := by simpa only [List.append_assoc] using h
theorem St.ungrp3 (A : Hp) (h : St w0 T ((A ++ (L1 ++ (L2 ++ L3))) ++ R) w) : St w0 T (A ++ (L1 ++ (L2 ++ (L3 ++ R)))) w := by simpa only [List.append_assoc] using h
theorem St.ungrp4 (A : Hp) (h : St w0 T ((A ++ (L1 ++ (L2 ++ (L3 ++ L4)))) ++ R) w) : St w0 T (A ++ (L1 ++ (L2 ++ (L3 ++ (L4 ++ R))))) w := by simpa only [List.append_assoc] using h
theorem St.assoc3 (h : St w0 T ((L1 ++ (L2 ++ L3)) ++ R) w) : St w0 T (L1 ++ (L2 ++ (L3 ++ R))) w := by simpa only [List.append_assoc] using h
theorem St.assoc4 (h : St w0 T ((L1 ++ (L2 ++ (L3 ++ L4))) ++ R) w) : St w0 T (L1 ++ (L2 ++ (L3 ++ (L4 ++ R)))) w := by simpa only [List.append_assoc] using h
theorem St.assoc5 (h : St w0 T ((L1 ++ (L2 ++ (L3 ++ (L4 ++ L5)))) ++ R) w) : St w0 T (L1 ++ (L2 ++ (L3 ++ (L4 ++ (L5 ++ R))))) w := by simpa only [List.append_assoc] using h
theorem St.assoc6 (h : St w0 T ((L1 ++ (L2 ++ (L3 ++ (L4 ++ (L5 ++ L6))))) ++ R) w) : St w0 T (L1 ++ (L2 ++ (L3 ++ (L4 ++ (L5 ++ (L6 ++ R)))))) w := by simpa only [List.append_assoc] using h
theorem St.assoc7 (h : St w0 T ((L1 ++ (L2 ++ (L3 ++ (L4 ++ (L5 ++ (L6 ++ L7)))))) ++ R) w) : St w0 T (L1 ++ (L2 ++ (L3 ++ (L4 ++ (L5 ++ (L6 ++ (L7 ++ R))))))) w := by simpa only [List.append_assoc] using h
end
end Go.Proofs.Ytpiimkfonlijdaa
