/- The statement on FnExactGrow: for every input the law returns true. No condition. -/
import Derived.Test.YtghcicggamkjgaaRows
import Derived.Test.YtghcicggamkjgaaL5
import Derived.Test.YtghcicggamkjgaaW1
namespace Go.Proofs.Ytghcicggamkjgaa
open Go Go.RowKit
set_option linter.unusedVariables false
set_option linter.unusedSimpArgs false
theorem cells_3 : Try.prog.cellsOf 3 = 1 := by kernel_rfl
theorem cells_4 : Try.prog.cellsOf 4 = 1 := by kernel_rfl
theorem cells_65 : Try.prog.cellsOf 65 = 3 := by kernel_rfl
def goodNode (d : NodeD) : Prop := In64 d.Pane ∧ In64 d.First
theorem open_Node {H : Type} {enc : TypeId × Value → H} {w : World} {base : Nat} {spare : Nat → Bool} {held : Bool} {fuel : Nat} {cs : List Value} {x : DataW H × List MemPlace} (h : DataW.trod enc Try.prog w base spare held fuel 65 cs = some x) : ∃ d, cs = encNode.enc d ∧ goodNode d := by
  obtain ⟨hl, n, hg⟩ := trod_flds Try.underlying65 h
  rw [cells_65] at hl
  obtain ⟨c0, l0, rfl, z0⟩ := list_succ hl
  obtain ⟨c1, l1, rfl, z1⟩ := list_succ z0
  obtain ⟨c2, l2, rfl, z2⟩ := list_succ z1
  obtain rfl := list_zero z2
  obtain ⟨y0, g0⟩ := hg 0 _ rfl
  rw [show Try.prog.cellsOf _ = 1 from cells_3] at g0
  replace g0 : DataW.trod _ _ _ _ _ _ _ 3 [c0] = _ := g0
  obtain ⟨x0, e0, w0⟩ := open_i64 Try.underlying3 g0
  obtain ⟨y1, g1⟩ := hg 1 _ rfl
  rw [show Try.prog.cellsOf _ = 1 from cells_4] at g1
  replace g1 : DataW.trod _ _ _ _ _ _ _ 4 [c1] = _ := g1
  obtain ⟨x1, e1⟩ := open_bool' Try.underlying4 g1
  obtain ⟨y2, g2⟩ := hg 2 _ rfl
  rw [show Try.prog.cellsOf _ = 1 from cells_3] at g2
  replace g2 : DataW.trod _ _ _ _ _ _ _ 3 [c2] = _ := g2
  obtain ⟨x2, e2, w2⟩ := open_i64 Try.underlying3 g2
  cases e0
  cases e1
  cases e2
  exact ⟨⟨x0, x1, x2⟩, rfl, ⟨w0, w2⟩⟩
namespace fnExactGrow
open Go.ChangeShapes Go.WideShapes Go.ChangeAt Go.RowKit
theorem own : ownKnob Try.prog.godebug = none := by kernel_rfl
theorem laidOut : laidOutB Try.prog = true := by kernel_rfl
set_option maxRecDepth 100000 in
set_option maxHeartbeats 1000000 in
theorem lifted (os : Os) (started : os.Started) (H : Type) (enc : TypeId × Value → H) :
    ReturnsInHanded {} Try.checked os 14 .any (Rows.fnExactGrowSpec.pre6 enc Try.prog Try.f14 Rows.fnExactGrowRow.domain false) (Rows.fnExactGrowSpec.post enc Try.prog Try.f14 false true false false) := by
  refine returnsInHanded_of_change (C := Try.checked) own started (by kernel_rfl) Try.func14
    (ChangeSpec.witness6 (enc := enc) (C := Try.checked) false ⟨#[], #[.slice none 0 0, .int .i64 0, .bool false, .int .i64 0, .int .i64 0, .int .i64 0], []⟩ 8 (by kernel_rfl) (by kernel_rfl) (by kernel_rfl) (by kernel_rfl)) ?_
  intro W base args ds gs before hval0 hW hcnd _
  have hval : ∀ (j : Nat) t v, Try.f14.params[j]? = some t → args[j]? = some v → Value.okWide Try.prog W .any base t v := hval0
  have hW' := hW
  obtain ⟨p, q, hA0, hV, rfl, hfz, hnd⟩ := hW
  have hA : DataW.TrodAll enc Try.prog W 0 (fun _ => true) true Try.f14.params.toList args.toList ds p := hA0
  rw [Try.params14] at hA hval
  obtain ⟨v0, vs0, d0, ds0, p0, q0, hargs, rfl, rfl, h0, r0⟩ := trodAll_cons hA
  obtain ⟨v1, vs1, d1, ds1, p1, q1, rfl, rfl, rfl, h1, r1⟩ := trodAll_cons r0
  obtain ⟨v2, vs2, d2, ds2, p2, q2, rfl, rfl, rfl, h2, r2⟩ := trodAll_cons r1
  obtain ⟨v3, vs3, d3, ds3, p3, q3, rfl, rfl, rfl, h3, r3⟩ := trodAll_cons r2
  obtain ⟨v4, vs4, d4, ds4, p4, q4, rfl, rfl, rfl, h4, r4⟩ := trodAll_cons r3
  obtain ⟨v5, vs5, d5, ds5, p5, q5, rfl, rfl, rfl, h5, r5⟩ := trodAll_cons r4
  obtain ⟨rfl, rfl, rfl⟩ := trodAll_nil r5
  obtain rfl : args = #[v0, v1, v2, v3, v4, v5] := by cases args; simp_all
  obtain ⟨rfl, rfl⟩ := trodVars_none hV
  have k0 := h0
  have lt0 : ∀ x ∈ p0, x.block < W.heap.size := by obtain ⟨m, hm⟩ := k0; exact DataW.trod_lt m _ _ _ hm
  have k1 := h1
  have lt1 : ∀ x ∈ p1, x.block < W.heap.size := by obtain ⟨m, hm⟩ := k1; exact DataW.trod_lt m _ _ _ hm
  have k2 := h2
  have lt2 : ∀ x ∈ p2, x.block < W.heap.size := by obtain ⟨m, hm⟩ := k2; exact DataW.trod_lt m _ _ _ hm
  have k3 := h3
  have lt3 : ∀ x ∈ p3, x.block < W.heap.size := by obtain ⟨m, hm⟩ := k3; exact DataW.trod_lt m _ _ _ hm
  have k4 := h4
  have lt4 : ∀ x ∈ p4, x.block < W.heap.size := by obtain ⟨m, hm⟩ := k4; exact DataW.trod_lt m _ _ _ hm
  have k5 := h5
  have lt5 : ∀ x ∈ p5, x.block < W.heap.size := by obtain ⟨m, hm⟩ := k5; exact DataW.trod_lt m _ _ _ hm
  obtain ⟨a0, l0, q0, rfl⟩ := okWide_slice Try.underlying22 (hval 0 22 v0 rfl rfl)
  obtain ⟨fuel0, hf0⟩ := h0
  replace hf0 : DataW.trod _ _ _ _ _ _ _ 22 [.slice a0 l0 q0] = _ := hf0
  obtain ⟨A_t, n_t, c_t, t, e0, f_t, w_t, g_t⟩ := open_SlF (F := encNode) (good := goodNode) Try.underlying22 cells_65 (fun _ _ _ h_ => open_Node h_) hf0
  obtain ⟨rfl, rfl, rfl⟩ : A_t = a0 ∧ n_t = l0 ∧ c_t = q0 := by cases e0; exact ⟨rfl, rfl, rfl⟩
  obtain ⟨q1, rfl⟩ := okWide_int Try.underlying3 (hval 1 3 v1 rfl rfl)
  obtain ⟨fuel1, hf1⟩ := h1
  replace hf1 : DataW.trod _ _ _ _ _ _ _ 3 [.int .i64 q1] = _ := hf1
  obtain ⟨p, e1, w_p⟩ := open_i64 Try.underlying3 hf1
  obtain rfl : p = q1 := by cases e1; rfl
  obtain ⟨q2, rfl⟩ := okWide_bool Try.underlying4 (hval 2 4 v2 rfl rfl)
  obtain ⟨fuel2, hf2⟩ := h2
  replace hf2 : DataW.trod _ _ _ _ _ _ _ 4 [.bool q2] = _ := hf2
  obtain ⟨down, e2⟩ := open_bool' Try.underlying4 hf2
  obtain rfl : down = q2 := by cases e2; rfl
  obtain ⟨q3, rfl⟩ := okWide_int Try.underlying3 (hval 3 3 v3 rfl rfl)
  obtain ⟨fuel3, hf3⟩ := h3
  replace hf3 : DataW.trod _ _ _ _ _ _ _ 3 [.int .i64 q3] = _ := hf3
  obtain ⟨by_, e3, w_by_⟩ := open_i64 Try.underlying3 hf3
  obtain rfl : by_ = q3 := by cases e3; rfl
  obtain ⟨q4, rfl⟩ := okWide_int Try.underlying3 (hval 4 3 v4 rfl rfl)
  obtain ⟨fuel4, hf4⟩ := h4
  replace hf4 : DataW.trod _ _ _ _ _ _ _ 3 [.int .i64 q4] = _ := hf4
  obtain ⟨w_, e4, w_w_⟩ := open_i64 Try.underlying3 hf4
  obtain rfl : w_ = q4 := by cases e4; rfl
  obtain ⟨q5, rfl⟩ := okWide_int Try.underlying3 (hval 5 3 v5 rfl rfl)
  obtain ⟨fuel5, hf5⟩ := h5
  replace hf5 : DataW.trod _ _ _ _ _ _ _ 3 [.int .i64 q5] = _ := hf5
  obtain ⟨h_, e5, w_h_⟩ := open_i64 Try.underlying3 hf5
  obtain rfl : h_ = q5 := by cases e5; rfl
  clear hA0 hval0
  refine (c_laws_FnExactGrow A_t n_t c_t t p down by_ w_ h_ W f_t w_t).mono fun e W' ⟨he, hst⟩ => ?_
  have bel := hst.toBelow
  subst he
  exact ⟨_, rfl, _, _, _, [], _, [], hW', trodAll_mk1 (shut_bool Try.underlying4 _), (trodAll_cons_mk (Below.trod laidOut (by kernel_rfl) (of_decide_eq_true (by kernel_rfl)) k0 bel lt0) (trodAll_cons_mk (Below.trod laidOut (by kernel_rfl) (of_decide_eq_true (by kernel_rfl)) k1 bel lt1) (trodAll_cons_mk (Below.trod laidOut (by kernel_rfl) (of_decide_eq_true (by kernel_rfl)) k2 bel lt2) (trodAll_cons_mk (Below.trod laidOut (by kernel_rfl) (of_decide_eq_true (by kernel_rfl)) k3 bel lt3) (trodAll_cons_mk (Below.trod laidOut (by kernel_rfl) (of_decide_eq_true (by kernel_rfl)) k4 bel lt4) (trodAll_cons_mk (Below.trod laidOut (by kernel_rfl) (of_decide_eq_true (by kernel_rfl)) k5 bel lt5) trodAll_mk0)))))), rfl, bel.frame _, fun h => by cases h⟩
theorem over : Rows.fnExactGrowRow.holds Try.pinned (OpenSpec.ofChange Rows.fnExactGrowSpec) :=
  OpenClaim.holds_of_wide 14 Try.f14 rfl rfl rfl rfl rfl rfl rfl ⟨rfl, rfl, rfl, rfl, rfl⟩ rfl rfl rfl rfl rfl (by kernel_rfl) Try.func14 (by kernel_rfl)
    (of_decide_eq_true (by kernel_rfl)) (by unfold Func.isWrapper; first | (rw [if_pos (by decide +kernel)]; kernel_rfl) | (rw [if_neg (by decide +kernel)]; exact ⟨rfl, rfl⟩))
    (fun os started H enc _ => lifted os started H enc)
end fnExactGrow
theorem fnExactGrow_holds : Rows.FnExactGrowSaid := fnExactGrow.over
end Go.Proofs.Ytghcicggamkjgaa
