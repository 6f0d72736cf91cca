/- The statement on FnExactCellsBytes: for every input the law returns true. No condition. -/
import Derived.Test.YtpiimkfonlijdaaRows
import Derived.Test.YtpiimkfonlijdaaK3
import Derived.Test.YtpiimkfonlijdaaW1
namespace Go.Proofs.Ytpiimkfonlijdaa
open Go Go.RowKit
set_option linter.unusedVariables false
set_option linter.unusedSimpArgs false
theorem cells_3 : Try.prog.cellsOf 3 = 1 := by kernel_rfl
theorem cells_4 : Try.prog.cellsOf 4 = 1 := by kernel_rfl
theorem cells_86 : Try.prog.cellsOf 86 = 5 := by kernel_rfl
def goodAttr (d : AttrD) : Prop := In64 d.Fg ∧ In64 d.Bg
theorem open_Attr {H : Type} {enc : TypeId × Value → H} {w : World} {base : Nat} {spare : Nat → Bool} {held : Bool} {fuel : Nat} {cs : List Value} {x : DataW H × List MemPlace} (h : DataW.trod enc Try.prog w base spare held fuel 86 cs = some x) : ∃ d, cs = encAttr.enc d ∧ goodAttr d := by
  obtain ⟨hl, n, hg⟩ := trod_flds Try.underlying86 h
  rw [cells_86] at hl
  obtain ⟨c0, l0, rfl, z0⟩ := list_succ hl
  obtain ⟨c1, l1, rfl, z1⟩ := list_succ z0
  obtain ⟨c2, l2, rfl, z2⟩ := list_succ z1
  obtain ⟨c3, l3, rfl, z3⟩ := list_succ z2
  obtain ⟨c4, l4, rfl, z4⟩ := list_succ z3
  obtain rfl := list_zero z4
  obtain ⟨y0, g0⟩ := hg 0 _ rfl
  rw [show Try.prog.cellsOf _ = 1 from cells_3] at g0
  replace g0 : DataW.trod _ _ _ _ _ _ _ 3 [c0] = _ := g0
  obtain ⟨x0, e0, w0⟩ := open_i64 Try.underlying3 g0
  obtain ⟨y1, g1⟩ := hg 1 _ rfl
  rw [show Try.prog.cellsOf _ = 1 from cells_3] at g1
  replace g1 : DataW.trod _ _ _ _ _ _ _ 3 [c1] = _ := g1
  obtain ⟨x1, e1, w1⟩ := open_i64 Try.underlying3 g1
  obtain ⟨y2, g2⟩ := hg 2 _ rfl
  rw [show Try.prog.cellsOf _ = 1 from cells_4] at g2
  replace g2 : DataW.trod _ _ _ _ _ _ _ 4 [c2] = _ := g2
  obtain ⟨x2, e2⟩ := open_bool' Try.underlying4 g2
  obtain ⟨y3, g3⟩ := hg 3 _ rfl
  rw [show Try.prog.cellsOf _ = 1 from cells_4] at g3
  replace g3 : DataW.trod _ _ _ _ _ _ _ 4 [c3] = _ := g3
  obtain ⟨x3, e3⟩ := open_bool' Try.underlying4 g3
  obtain ⟨y4, g4⟩ := hg 4 _ rfl
  rw [show Try.prog.cellsOf _ = 1 from cells_4] at g4
  replace g4 : DataW.trod _ _ _ _ _ _ _ 4 [c4] = _ := g4
  obtain ⟨x4, e4⟩ := open_bool' Try.underlying4 g4
  cases e0
  cases e1
  cases e2
  cases e3
  cases e4
  exact ⟨⟨x0, x1, x2, x3, x4⟩, rfl, ⟨w0, w1⟩⟩
theorem cells_88 : Try.prog.cellsOf 88 = 6 := by kernel_rfl
def goodCell (d : CellD) : Prop := In64 d.R ∧ goodAttr d.A
theorem open_Cell {H : Type} {enc : TypeId × Value → H} {w : World} {base : Nat} {spare : Nat → Bool} {held : Bool} {fuel : Nat} {cs : List Value} {x : DataW H × List MemPlace} (h : DataW.trod enc Try.prog w base spare held fuel 88 cs = some x) : ∃ d, cs = encCell.enc d ∧ goodCell d := by
  obtain ⟨hl, n, hg⟩ := trod_flds Try.underlying88 h
  rw [cells_88] at hl
  obtain ⟨c0, l0, rfl, z0⟩ := list_succ hl
  obtain ⟨c1, l1, rfl, z1⟩ := list_succ z0
  obtain ⟨c2, l2, rfl, z2⟩ := list_succ z1
  obtain ⟨c3, l3, rfl, z3⟩ := list_succ z2
  obtain ⟨c4, l4, rfl, z4⟩ := list_succ z3
  obtain ⟨c5, l5, rfl, z5⟩ := list_succ z4
  obtain rfl := list_zero z5
  obtain ⟨y0, g0⟩ := hg 0 _ rfl
  rw [show Try.prog.cellsOf _ = 1 from cells_3] at g0
  replace g0 : DataW.trod _ _ _ _ _ _ _ 3 [c0] = _ := g0
  obtain ⟨x0, e0, w0⟩ := open_i64 Try.underlying3 g0
  obtain ⟨y1, g1⟩ := hg 1 _ rfl
  rw [show Try.prog.cellsOf _ = 5 from cells_86] at g1
  replace g1 : DataW.trod _ _ _ _ _ _ _ 86 [c1, c2, c3, c4, c5] = _ := g1
  obtain ⟨x1, e1, w1⟩ := open_Attr g1
  replace e1 : [c1, c2, c3, c4, c5] = [i64 x1.Fg, i64 x1.Bg, .bool x1.Bold, .bool x1.Under, .bool x1.Turn] := e1
  cases e0
  cases e1
  exact ⟨⟨x0, x1⟩, rfl, ⟨w0, w1⟩⟩
namespace fnExactCellsBytes
open Go.ChangeShapes Go.WideShapes Go.ChangeAt Go.RowKit
theorem own : ownKnob Try.prog.godebug = none := by kernel_rfl
theorem laidOut : laidOutB Try.prog = true := by kernel_rfl
set_option maxRecDepth 100000 in
set_option maxHeartbeats 1000000 in
theorem lifted (os : Os) (started : os.Started) (H : Type) (enc : TypeId × Value → H) :
    ReturnsInHanded {} Try.checked os 4 .any (Rows.fnExactCellsBytesSpec.pre6 enc Try.prog Try.f4 Rows.fnExactCellsBytesRow.domain false) (Rows.fnExactCellsBytesSpec.post enc Try.prog Try.f4 false true false false) := by
  refine returnsInHanded_of_change (C := Try.checked) own started (by kernel_rfl) Try.func4
    (ChangeSpec.witness6 (enc := enc) (C := Try.checked) false ⟨#[], #[.slice none 0 0], []⟩ 8 (by kernel_rfl) (by kernel_rfl) (by kernel_rfl) (by kernel_rfl)) ?_
  intro W base args ds gs before hval0 hW hcnd _
  have hval : ∀ (j : Nat) t v, Try.f4.params[j]? = some t → args[j]? = some v → Value.okWide Try.prog W .any base t v := hval0
  have hW' := hW
  obtain ⟨p, q, hA0, hV, rfl, hfz, hnd⟩ := hW
  have hA : DataW.TrodAll enc Try.prog W 0 (fun _ => true) true Try.f4.params.toList args.toList ds p := hA0
  rw [Try.params4] at hA hval
  obtain ⟨v0, vs0, d0, ds0, p0, q0, hargs, rfl, rfl, h0, r0⟩ := trodAll_cons hA
  obtain ⟨rfl, rfl, rfl⟩ := trodAll_nil r0
  obtain rfl : args = #[v0] := by cases args; simp_all
  obtain ⟨rfl, rfl⟩ := trodVars_none hV
  have k0 := h0
  have lt0 : ∀ x ∈ p0, x.block < W.heap.size := by obtain ⟨m, hm⟩ := k0; exact DataW.trod_lt m _ _ _ hm
  obtain ⟨a0, l0, q0, rfl⟩ := okWide_slice Try.underlying31 (hval 0 31 v0 rfl rfl)
  obtain ⟨fuel0, hf0⟩ := h0
  replace hf0 : DataW.trod _ _ _ _ _ _ _ 31 [.slice a0 l0 q0] = _ := hf0
  obtain ⟨A_l, n_l, c_l, l, e0, f_l, w_l, g_l⟩ := open_SlF (F := encCell) (good := goodCell) Try.underlying31 cells_88 (fun _ _ _ h_ => open_Cell h_) hf0
  obtain ⟨rfl, rfl, rfl⟩ : A_l = a0 ∧ n_l = l0 ∧ c_l = q0 := by cases e0; exact ⟨rfl, rfl, rfl⟩
  clear hA0 hval0
  refine (c_laws_FnExactCellsBytes A_l n_l c_l l W f_l w_l).mono fun e W' ⟨he, hst⟩ => ?_
  have bel := hst.toBelow
  subst he
  exact ⟨_, rfl, _, _, _, [], _, [], hW', trodAll_mk1 (shut_bool Try.underlying4 _), (trodAll_cons_mk (Below.trod laidOut (by kernel_rfl) (of_decide_eq_true (by kernel_rfl)) k0 bel lt0) trodAll_mk0), rfl, bel.frame _, fun h => by cases h⟩
theorem over : Rows.fnExactCellsBytesRow.holds Try.pinned (OpenSpec.ofChange Rows.fnExactCellsBytesSpec) :=
  OpenClaim.holds_of_wide 4 Try.f4 rfl rfl rfl rfl rfl rfl rfl ⟨rfl, rfl, rfl, rfl, rfl⟩ rfl rfl rfl rfl rfl (by kernel_rfl) Try.func4 (by kernel_rfl)
    (of_decide_eq_true (by kernel_rfl)) (by unfold Func.isWrapper; first | (rw [if_pos (by decide +kernel)]; kernel_rfl) | (rw [if_neg (by decide +kernel)]; exact ⟨rfl, rfl⟩))
    (fun os started H enc _ => lifted os started H enc)
end fnExactCellsBytes
theorem fnExactCellsBytes_holds : Rows.FnExactCellsBytesSaid := fnExactCellsBytes.over
end Go.Proofs.Ytpiimkfonlijdaa
