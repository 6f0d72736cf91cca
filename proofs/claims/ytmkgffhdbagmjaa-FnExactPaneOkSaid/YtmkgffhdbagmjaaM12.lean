/-
  Plain laws: panes, windows, sessions: where they are, what is valid.
-/
import Derived.Test.YtmkgffhdbagmjaaM8
namespace Go.Proofs.Ytmkgffhdbagmjaa
open Go Go.RowKit
set_option linter.unusedVariables false
set_option linter.unusedSimpArgs false
theorem findI_map {α β : Type} {f : α → β} {p : β → Bool} {l : List α} : findI p (l.map f) = findI (fun x => p (f x)) l := by
  unfold findI
  rw [List.findIdx?_map]
  rfl
/-- A list has a number. -/
def hasI (l : List Int) (x : Int) : Bool := decide (x ∈ l)
theorem hasI_find {l : List Int} {x : Int} : decide (0 ≤ findI (fun z => decide (x = z)) l) = hasI l x := by
  have h := all_find (p := fun z => !decide (x = z)) (l := l)
  simp only [Bool.not_not] at h
  have h2 : decide (0 ≤ findI (fun z => decide (x = z)) l) = !(l.all fun z => !decide (x = z)) := by rw [← h, Bool.not_not]
  rw [h2, Bool.eq_iff_iff]
  simp [hasI]
theorem hasI_not {l : List Int} {x : Int} (h : ∀ j, j < l.length → iat l j ≠ x) : x ∉ l := by
  intro hx
  obtain ⟨j, hj, rfl⟩ := List.mem_iff_getElem.1 hx
  exact h j hj (by simp [gat, List.getD, hj])
def lifeOk (life code pid : Int) : Bool :=
  if life = 1 then isId pid && decide (code = 0) else if life = 2 then within code 0 255 && decide (pid = 0) else if life = 3 then decide (code = 0) && decide (pid = 0) else false
def paneOk (p : PaneD) : Bool := (((isId p.Id && isCmd p.Cmd) && isCmd p.Dir) && termOk p.Term) && lifeOk p.Life p.Code p.Pid
end Go.Proofs.Ytmkgffhdbagmjaa
