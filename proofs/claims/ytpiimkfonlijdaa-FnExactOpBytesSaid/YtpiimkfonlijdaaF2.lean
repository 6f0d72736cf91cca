/- The statement on FnExactOpBytes: for every input the law returns true. No condition. -/
import Derived.Test.YtpiimkfonlijdaaRows
import Derived.Test.YtpiimkfonlijdaaL1
import Derived.Test.YtpiimkfonlijdaaW1
namespace Go.Proofs.Ytpiimkfonlijdaa
open Go Go.RowKit
set_option linter.unusedVariables false
set_option linter.unusedSimpArgs false
namespace fnExactOpBytes
open Go.ChangeShapes Go.WideShapes Go.ChangeAt Go.RowKit
theorem own : ownKnob Try.prog.godebug = none := by kernel_rfl
theorem laidOut : laidOutB Try.prog = true := by kernel_rfl
theorem cells_22 : Try.prog.cellsOf 22 = 1 := by kernel_rfl
theorem cells_9 : Try.prog.cellsOf 9 = 1 := by kernel_rfl
theorem cells_3 : Try.prog.cellsOf 3 = 1 := by kernel_rfl
set_option maxRecDepth 100000 in
set_option maxHeartbeats 1000000 in
theorem lifted (os : Os) (started : os.Started) (H : Type) (enc : TypeId × Value → H) :
    ReturnsInHanded {} Try.checked os 5 .any (Rows.fnExactOpBytesSpec.pre6 enc Try.prog Try.f5 Rows.fnExactOpBytesRow.domain false) (Rows.fnExactOpBytesSpec.post enc Try.prog Try.f5 false true false false) := by
  refine returnsInHanded_of_change (C := Try.checked) own started (by kernel_rfl) Try.func5
    (ChangeSpec.witness6 (enc := enc) (C := Try.checked) false ⟨#[], #[(Value.agg #[Value.int IntKind.i64 0, Value.int IntKind.i64 0, Value.int IntKind.i64 0, Value.int IntKind.i64 0, Value.string { data := #[] }, Value.string { data := #[] }, Value.string { data := #[] }, Value.slice none 0 0])], []⟩ 8 (by kernel_rfl) (by kernel_rfl) (by kernel_rfl) (by kernel_rfl)) ?_
  intro W base args ds gs before hval0 hW hcnd _
  have hval : ∀ (j : Nat) t v, Try.f5.params[j]? = some t → args[j]? = some v → Value.okWide Try.prog W .any base t v := hval0
  have hW' := hW
  obtain ⟨p, q, hA0, hV, rfl, hfz, hnd⟩ := hW
  have hA : DataW.TrodAll enc Try.prog W 0 (fun _ => true) true Try.f5.params.toList args.toList ds p := hA0
  rw [Try.params5] at hA hval
  obtain ⟨v0, vs0, d0, ds0, p0, q0, hargs, rfl, rfl, h0, r0⟩ := trodAll_cons hA
  obtain ⟨rfl, rfl, rfl⟩ := trodAll_nil r0
  obtain rfl : args = #[v0] := by cases args; simp_all
  obtain ⟨rfl, rfl⟩ := trodVars_none hV
  have k0 := h0
  have lt0 : ∀ x ∈ p0, x.block < W.heap.size := by obtain ⟨m, hm⟩ := k0; exact DataW.trod_lt m _ _ _ hm
  obtain ⟨cs0, rfl, hsz0⟩ := okWide_struct Try.underlying24 (hval 0 24 v0 rfl rfl)
  rw [show Try.prog.cellsOf 24 = 8 from by kernel_rfl] at hsz0
  obtain ⟨l0⟩ := cs0
  obtain ⟨fuel0, hf0⟩ := h0
  obtain ⟨_, n0, hg0⟩ := trod_flds Try.underlying24 hf0
  have z0_0 : l0.length = 8 := hsz0
  clear hsz0
  obtain ⟨c0_0, l0_0, rfl, z0_1⟩ := list_succ z0_0
  obtain ⟨c0_1, l0_1, rfl, z0_2⟩ := list_succ z0_1
  obtain ⟨c0_2, l0_2, rfl, z0_3⟩ := list_succ z0_2
  obtain ⟨c0_3, l0_3, rfl, z0_4⟩ := list_succ z0_3
  obtain ⟨c0_4, l0_4, rfl, z0_5⟩ := list_succ z0_4
  obtain ⟨c0_5, l0_5, rfl, z0_6⟩ := list_succ z0_5
  obtain ⟨c0_6, l0_6, rfl, z0_7⟩ := list_succ z0_6
  obtain ⟨c0_7, l0_7, rfl, z0_8⟩ := list_succ z0_7
  obtain rfl := list_zero z0_8
  obtain ⟨y0_0, g0_0⟩ := hg0 0 _ rfl
  rw [show Try.prog.cellsOf _ = 1 from cells_3] at g0_0
  replace g0_0 : DataW.trod _ _ _ _ _ _ _ 3 [c0_0] = _ := g0_0
  obtain ⟨k, e0_0, wk⟩ := open_i64 Try.underlying3 g0_0
  obtain ⟨y0_1, g0_1⟩ := hg0 1 _ rfl
  rw [show Try.prog.cellsOf _ = 1 from cells_3] at g0_1
  replace g0_1 : DataW.trod _ _ _ _ _ _ _ 3 [c0_1] = _ := g0_1
  obtain ⟨a, e0_1, wa⟩ := open_i64 Try.underlying3 g0_1
  obtain ⟨y0_2, g0_2⟩ := hg0 2 _ rfl
  rw [show Try.prog.cellsOf _ = 1 from cells_3] at g0_2
  replace g0_2 : DataW.trod _ _ _ _ _ _ _ 3 [c0_2] = _ := g0_2
  obtain ⟨b, e0_2, wb⟩ := open_i64 Try.underlying3 g0_2
  obtain ⟨y0_3, g0_3⟩ := hg0 3 _ rfl
  rw [show Try.prog.cellsOf _ = 1 from cells_3] at g0_3
  replace g0_3 : DataW.trod _ _ _ _ _ _ _ 3 [c0_3] = _ := g0_3
  obtain ⟨c, e0_3, wc⟩ := open_i64 Try.underlying3 g0_3
  obtain ⟨y0_4, g0_4⟩ := hg0 4 _ rfl
  rw [show Try.prog.cellsOf _ = 1 from cells_9] at g0_4
  replace g0_4 : DataW.trod _ _ _ _ _ _ _ 9 [c0_4] = _ := g0_4
  obtain ⟨nm, e0_4, wnm⟩ := open_str Try.underlying9 g0_4
  obtain ⟨y0_5, g0_5⟩ := hg0 5 _ rfl
  rw [show Try.prog.cellsOf _ = 1 from cells_9] at g0_5
  replace g0_5 : DataW.trod _ _ _ _ _ _ _ 9 [c0_5] = _ := g0_5
  obtain ⟨tx, e0_5, wtx⟩ := open_str Try.underlying9 g0_5
  obtain ⟨y0_6, g0_6⟩ := hg0 6 _ rfl
  rw [show Try.prog.cellsOf _ = 1 from cells_9] at g0_6
  replace g0_6 : DataW.trod _ _ _ _ _ _ _ 9 [c0_6] = _ := g0_6
  obtain ⟨dr, e0_6, wdr⟩ := open_str Try.underlying9 g0_6
  obtain ⟨y0_7, g0_7⟩ := hg0 7 _ rfl
  rw [show Try.prog.cellsOf _ = 1 from cells_22] at g0_7
  replace g0_7 : DataW.trod _ _ _ _ _ _ _ 22 [c0_7] = _ := g0_7
  obtain ⟨A, n, cp, xs, e0_7, hxs, wxs⟩ := open_SlB Try.underlying22 Try.underlying5 (by kernel_rfl) g0_7
  cases e0_0
  cases e0_1
  cases e0_2
  cases e0_3
  cases e0_4
  cases e0_5
  cases e0_6
  cases e0_7
  clear hA0 hval0
  refine (c_laws_FnExactOpBytes k a b c nm tx dr A n cp xs W hxs wnm wtx wdr wxs).mono fun e W' ⟨he, hst⟩ => ?_
  have bel := hst.toBelow
  subst he
  exact ⟨_, rfl, _, _, _, [], _, [], hW', trodAll_mk1 (shut_bool Try.underlying4 _), (trodAll_cons_mk (Below.trod laidOut (by kernel_rfl) (of_decide_eq_true (by kernel_rfl)) k0 bel lt0) trodAll_mk0), rfl, bel.frame _, fun h => by cases h⟩
theorem over : Rows.fnExactOpBytesRow.holds Try.pinned (OpenSpec.ofChange Rows.fnExactOpBytesSpec) :=
  OpenClaim.holds_of_wide 5 Try.f5 rfl rfl rfl rfl rfl rfl rfl ⟨rfl, rfl, rfl, rfl, rfl⟩ rfl rfl rfl rfl rfl (by kernel_rfl) Try.func5 (by kernel_rfl)
    (of_decide_eq_true (by kernel_rfl)) (by unfold Func.isWrapper; first | (rw [if_pos (by decide +kernel)]; kernel_rfl) | (rw [if_neg (by decide +kernel)]; exact ⟨rfl, rfl⟩))
    (fun os started H enc _ => lifted os started H enc)
end fnExactOpBytes
theorem fnExactOpBytes_holds : Rows.FnExactOpBytesSaid := fnExactOpBytes.over
end Go.Proofs.Ytpiimkfonlijdaa
