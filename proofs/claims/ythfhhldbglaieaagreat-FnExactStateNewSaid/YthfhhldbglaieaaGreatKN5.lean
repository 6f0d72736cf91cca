/-
  The statement: for every input the law returns true. No condition. (And what it stands on, the last part.)
-/
import Derived.Test.YthfhhldbglaieaaGreatKN4
namespace Go.Proofs.YthfhhldbglaieaaGreat
open Go Go.RowKit
set_option linter.unusedVariables false
set_option linter.unusedSimpArgs false
set_option maxHeartbeats 8000000 in
theorem k138_ (aW : Int) (aH : Int) (aLimit : Int) (w : World) :
    Calls Tryz.prog 6 #[i64 aW, i64 aH, i64 aLimit] w fun e w' => e = .returned (.bool true) ∧ St w [] [] w' := by
 refine enter 73 Tryz.func6 rfl Tryz.ntmps6 rfl rfl ?_
 have hs1 := St.init w
 refine WC.r1 hs1 [] rfl (WC.sr (WL.r 3 hs1 [] rfl (WL.cl Tryz.call20 rfl (k124_ _ _ _ _) ?_)))
 rintro _ whs2 ⟨rfl, hs2⟩
 replace hs2 := hs1.call0 hs2
 refine ⟨_, rfl, WL.r 3 hs2 [] rfl (WL.al hs2 Tryz.zeroValue33 rfl rfl (fun b3 _ hs4 => WL.st tbk hs4 0 rfl rfl (fun _ hs5 => WL.r 1 hs5 [] rfl (WL.nil (WC.sr (WL.r 3 hs5 [] rfl ?_))))))⟩
 refine WL.cl Tryz.call21 rfl (k123_ _ _ _ _) ?_
 rintro _ whs6 ⟨rfl, hs6⟩
 replace hs6 := hs5.call0 hs6
 refine ⟨_, rfl, WL.r 3 hs6 [] rfl (WL.al hs6 Tryz.zeroValue33 rfl rfl (fun b7 _ hs8 => WL.st tbk hs8 0 rfl rfl (fun _ hs9 => WL.r 1 hs9 [] rfl (WL.nil (WC.seq (fun K10 hK10 => WC.sr ?_))))))⟩
 refine WL.r 2 hs9 [0, 1] rfl ?_
 refine WL.cl Tryz.call15 rfl (k137_ ⟨_, _, _, _, ⟨_, _, _, _⟩, ⟨_, _, _, _⟩, ⟨_, _, _, _⟩⟩ ⟨_, _, _, _, ⟨_, _, _, _⟩, ⟨_, _, _, _⟩, ⟨_, _, _, _⟩⟩ _ ⟨(SlN.mk (SlF.nil _ _) (fun _ h_ => absurd h_ List.not_mem_nil)), (by first | assumption | omega | simp), (by first | assumption | omega | (simp; omega) | simp), (SlN.mk (SlF.nil _ _) (fun _ h_ => absurd h_ List.not_mem_nil)), (by first | assumption | omega | simp), (by first | assumption | omega | (simp; omega) | simp), (SlN.mk (SlF.nil _ _) (fun _ h_ => absurd h_ List.not_mem_nil)), (by first | assumption | omega | simp), (by first | assumption | omega | (simp; omega) | simp)⟩ ⟨(SlN.mk (SlF.nil _ _) (fun _ h_ => absurd h_ List.not_mem_nil)), (by first | assumption | omega | simp), (by first | assumption | omega | (simp; omega) | simp), (SlN.mk (SlF.nil _ _) (fun _ h_ => absurd h_ List.not_mem_nil)), (by first | assumption | omega | simp), (by first | assumption | omega | (simp; omega) | simp), (SlN.mk (SlF.nil _ _) (fun _ h_ => absurd h_ List.not_mem_nil)), (by first | assumption | omega | simp), (by first | assumption | omega | (simp; omega) | simp)⟩ ?_) ?_
 · first | assumption | rfl | omega | (simp only [endState]; first | done | assumption | omega)
 rintro _ whs11 ⟨rfl, hs11⟩
 replace hs11 := hs9.call0 hs11
 refine ⟨_, rfl, WL.r 2 hs11 [] rfl (WL.pO tbk 3 Acts.nil hs11 [] rfl rfl rfl rfl (fun g_ => trivial) (WL.nil ?_))⟩
 refine WC.condF rfl (by first | (simp; done) | (simp; omega) | (simp only [endState]; simp; omega)) (WC.skip (hK10 _ _ (WC.r1 hs11 [] rfl (WC.sr (WL.r 2 hs11 [0] rfl ?_)))))
 refine WL.cl Tryz.call22 rfl (k17_ _ _ _ _ _ _ ?_) ?_
 · first | assumption | rfl | omega | (simp only [endState]; first | done | assumption | omega)
 rintro _ whs13 ⟨rfl, hs13⟩
 replace hs13 := hs11.call0 hs13
 refine ⟨_, rfl, WL.r 1 hs13 [] rfl (WL.nil (WC.r1 hs13 [] rfl (WC.sr (WL.r 2 hs13 [0] rfl (WL.cl Tryz.call23 rfl (k18_ _ _ _ _ _ _ ?_) ?_)))))⟩
 · first | assumption | rfl | omega | (simp only [endState]; first | done | assumption | omega)
 rintro _ whs14 ⟨rfl, hs14⟩
 replace hs14 := hs13.call0 hs14
 refine ⟨_, rfl, WL.r 1 hs14 [] rfl (WL.nil (WC.seq (fun K15 hK15 => WC.r1 hs14 [] rfl ?_)))⟩
 refine WC.condF rfl (by first | (simp; done) | (simp; omega) | (simp only [endState]; simp; omega)) (WC.skip (hK15 _ _ (WC.seq (fun K17 hK17 => WC.r1 hs14 [] rfl ?_))))
 refine WC.condF rfl (by first | (simp; done) | (simp; omega) | (simp only [endState]; simp; omega)) (WC.skip (hK17 _ _ (WC.sr (WL.r 3 hs14 [] rfl (WL.cl Tryz.call21 rfl (k123_ _ _ _ _) ?_)))))
 rintro _ whs19 ⟨rfl, hs19⟩
 replace hs19 := hs14.call0 hs19
 refine ⟨_, rfl, WL.r 3 hs19 [] rfl (WL.al hs19 Tryz.zeroValue33 rfl rfl (fun b20 _ hs21 => WL.st tbk hs21 0 rfl rfl (fun _ hs22 => WL.r 1 hs22 [] rfl (WL.nil (WC.seq (fun K23 hK23 => WC.sr ?_))))))⟩
 refine WL.r 2 hs22 [0, 2] rfl ?_
 refine WL.cl Tryz.call15 rfl (k137_ ⟨_, _, _, _, ⟨_, _, _, _⟩, ⟨_, _, _, _⟩, ⟨_, _, _, _⟩⟩ ⟨_, _, _, _, ⟨_, _, _, _⟩, ⟨_, _, _, _⟩, ⟨_, _, _, _⟩⟩ _ ⟨(SlN.mk (SlF.nil _ _) (fun _ h_ => absurd h_ List.not_mem_nil)), (by first | assumption | omega | simp), (by first | assumption | omega | (simp; omega) | simp), (SlN.mk (SlF.nil _ _) (fun _ h_ => absurd h_ List.not_mem_nil)), (by first | assumption | omega | simp), (by first | assumption | omega | (simp; omega) | simp), (SlN.mk (SlF.nil _ _) (fun _ h_ => absurd h_ List.not_mem_nil)), (by first | assumption | omega | simp), (by first | assumption | omega | (simp; omega) | simp)⟩ ⟨(SlN.mk (SlF.nil _ _) (fun _ h_ => absurd h_ List.not_mem_nil)), (by first | assumption | omega | simp), (by first | assumption | omega | (simp; omega) | simp), (SlN.mk (SlF.nil _ _) (fun _ h_ => absurd h_ List.not_mem_nil)), (by first | assumption | omega | simp), (by first | assumption | omega | (simp; omega) | simp), (SlN.mk (SlF.nil _ _) (fun _ h_ => absurd h_ List.not_mem_nil)), (by first | assumption | omega | simp), (by first | assumption | omega | (simp; omega) | simp)⟩ ?_) ?_
 · first | assumption | rfl | omega | (simp only [endState]; first | done | assumption | omega)
 rintro _ whs24 ⟨rfl, hs24⟩
 replace hs24 := hs22.call0 hs24
 refine ⟨_, rfl, WL.r 2 hs24 [] rfl (WL.pO tbk 3 Acts.nil hs24 [] rfl rfl rfl rfl (fun g_ => trivial) (WL.nil ?_))⟩
 refine WC.condF rfl (by first | (simp; done) | (simp; omega) | (simp only [endState]; simp; omega)) (WC.skip (hK23 _ _ (WC.r1 hs24 [] rfl (WC.sr (WL.r 2 hs24 [1] rfl ?_)))))
 refine WL.cl Tryz.call23 rfl (k18_ _ _ _ _ _ _ ?_) ?_
 · first | assumption | rfl | omega | (simp only [endState]; first | done | assumption | omega)
 rintro _ whs26 ⟨rfl, hs26⟩
 replace hs26 := hs24.call0 hs26
 refine ⟨_, rfl, WL.r 1 hs26 [] rfl (WL.nil (WC.seq (fun K27 hK27 => WC.r1 hs26 [] rfl ?_)))⟩
 refine WC.condF rfl (by first | (simp; done) | (simp; omega) | (simp only [endState]; simp; omega)) (WC.skip (hK27 _ _ (WC.seq (fun K29 hK29 => WC.r1 hs26 [] rfl ?_))))
 refine WC.condF rfl (by first | (simp; done) | (simp; omega) | (simp only [endState]; simp; omega)) (WC.skip (hK29 _ _ (WC.r1 hs26 [] rfl (WC.ret (rtv rfl rfl hs26 ?_)))))
 rfl
open Go Go.RowKit Go.ChangeShapes Go.WideShapes Go.ChangeAt Go.Deep
section
variable {H : Type} {enc : TypeId × Value → H} {P : Program} {w : World} {base : Nat} {spare : Nat → Bool} {held : Bool} {fuel : Nat} {t e : TypeId} {cs : List Value} {x : DataW H × List MemPlace}
theorem open_i64 (ht : P.underlying t = some (.int .i64)) (h : DataW.trod enc P w base spare held fuel t cs = some x) : ∃ n, cs = [i64 n] ∧ In64 n := by
 obtain ⟨n, rfl, _, hw⟩ := DataW.trod_int ht h
 refine ⟨n, rfl, ?_⟩
 simp [Lit.wf, IntKind.min, IntKind.max, IntKind.signed, IntKind.bits] at hw
 exact hw
end
namespace fnExactStateNew
open Go.ChangeShapes Go.WideShapes Go.ChangeAt Go.RowKit
theorem own : ownKnob Tryz.prog.godebug = none := by kernel_rfl
theorem laidOut : laidOutB Tryz.prog = true := by kernel_rfl
set_option maxRecDepth 100000 in
set_option maxHeartbeats 1000000 in
theorem lifted (os : Os) (started : os.Started) (H : Type) (enc : TypeId × Value → H) :
    ReturnsInHanded {} Tryz.checked os 6 .any (Rows.fnExactStateNewSpec.pre6 enc Tryz.prog Tryz.f6 Rows.fnExactStateNewRow.domain false) (Rows.fnExactStateNewSpec.post enc Tryz.prog Tryz.f6 false true false false) := by
  refine returnsInHanded_of_change (C := Tryz.checked) own started (by kernel_rfl) Tryz.func6
    (ChangeSpec.witness6 (enc := enc) (C := Tryz.checked) false ⟨#[], #[.int .i64 0, .int .i64 0, .int .i64 0], []⟩ 8 (by kernel_rfl) (by kernel_rfl) (by kernel_rfl) (by kernel_rfl)) ?_
  intro W base args ds gs before hval0 hW hcnd _
  have hval : ∀ (j : Nat) t v, Tryz.f6.params[j]? = some t → args[j]? = some v → Value.okWide Tryz.prog W .any base t v := hval0
  have hW' := hW
  obtain ⟨p, q, hA0, hV, rfl, hfz, hnd⟩ := hW
  have hA : DataW.TrodAll enc Tryz.prog W 0 (fun _ => true) true Tryz.f6.params.toList args.toList ds p := hA0
  rw [Tryz.params6] at hA hval
  obtain ⟨v0, vs0, d0, ds0, p0, q0, hargs, rfl, rfl, h0, r0⟩ := trodAll_cons hA
  obtain ⟨v1, vs1, d1, ds1, p1, q1, rfl, rfl, rfl, h1, r1⟩ := trodAll_cons r0
  obtain ⟨v2, vs2, d2, ds2, p2, q2, rfl, rfl, rfl, h2, r2⟩ := trodAll_cons r1
  obtain ⟨rfl, rfl, rfl⟩ := trodAll_nil r2
  obtain rfl : args = #[v0, v1, v2] := by cases args; simp_all
  obtain ⟨rfl, rfl⟩ := trodVars_none hV
  have k0 := h0
  have lt0 : ∀ x ∈ p0, x.block < W.heap.size := by obtain ⟨m, hm⟩ := k0; exact DataW.trod_lt m _ _ _ hm
  have k1 := h1
  have lt1 : ∀ x ∈ p1, x.block < W.heap.size := by obtain ⟨m, hm⟩ := k1; exact DataW.trod_lt m _ _ _ hm
  have k2 := h2
  have lt2 : ∀ x ∈ p2, x.block < W.heap.size := by obtain ⟨m, hm⟩ := k2; exact DataW.trod_lt m _ _ _ hm
  obtain ⟨q0, rfl⟩ := okWide_int Tryz.underlying3 (hval 0 3 v0 rfl rfl)
  obtain ⟨fuel0, hf0⟩ := h0
  replace hf0 : DataW.trod _ _ _ _ _ _ _ 3 [.int .i64 q0] = _ := hf0
  obtain ⟨aW, e0, w_aW⟩ := open_i64 Tryz.underlying3 hf0
  obtain rfl : aW = q0 := by cases e0; rfl
  obtain ⟨q1, rfl⟩ := okWide_int Tryz.underlying3 (hval 1 3 v1 rfl rfl)
  obtain ⟨fuel1, hf1⟩ := h1
  replace hf1 : DataW.trod _ _ _ _ _ _ _ 3 [.int .i64 q1] = _ := hf1
  obtain ⟨aH, e1, w_aH⟩ := open_i64 Tryz.underlying3 hf1
  obtain rfl : aH = q1 := by cases e1; rfl
  obtain ⟨q2, rfl⟩ := okWide_int Tryz.underlying3 (hval 2 3 v2 rfl rfl)
  obtain ⟨fuel2, hf2⟩ := h2
  replace hf2 : DataW.trod _ _ _ _ _ _ _ 3 [.int .i64 q2] = _ := hf2
  obtain ⟨aLimit, e2, w_aLimit⟩ := open_i64 Tryz.underlying3 hf2
  obtain rfl : aLimit = q2 := by cases e2; rfl
  clear hA0 hval0
  refine (k138_ aW aH aLimit W).mono fun e W' ⟨he, hst⟩ => ?_
  have bel := hst.toBelow
  subst he
  exact ⟨_, rfl, _, _, _, [], _, [], hW', trodAll_mk1 (shut_bool Tryz.underlying4 _), (trodAll_cons_mk (Below.trod laidOut (by kernel_rfl) (of_decide_eq_true (by kernel_rfl)) k0 bel lt0) (trodAll_cons_mk (Below.trod laidOut (by kernel_rfl) (of_decide_eq_true (by kernel_rfl)) k1 bel lt1) (trodAll_cons_mk (Below.trod laidOut (by kernel_rfl) (of_decide_eq_true (by kernel_rfl)) k2 bel lt2) trodAll_mk0))), rfl, bel.frame _, fun h => by cases h⟩
theorem jq0 : laidOutB Tryz.pinned.checked.prog = true := by kernel_rfl
theorem jq1 : mapsRowed Tryz.pinned.checked.prog = true := by kernel_rfl
theorem jq2 : Tryz.pinned.checked.prog.inPlace 6 = Rows.fnExactStateNewRow.inPlace := by kernel_rfl
theorem jq3 : Tryz.pinned.checked.prog.unfollowed 6 = Rows.fnExactStateNewRow.unfollowed := by kernel_rfl
theorem jq4 : Tryz.pinned.checked.prog.recurses 6 = Rows.fnExactStateNewRow.recurses := by kernel_rfl
theorem jq5 : Tryz.pinned.checked.prog.varsNamed 6 = Rows.fnExactStateNewRow.named := by kernel_rfl
theorem closed : joinedFacts Tryz.pinned.checked.prog 6 Tryz.f6 Rows.fnExactStateNewSpec Rows.fnExactStateNewRow = true := by
  unfold joinedFacts
  rw [jq0, jq1, jq2, jq3, jq4, jq5]
  kernel_rfl
theorem fnIs : Tryz.pinned.checked.prog.funcNamed Rows.fnExactStateNewRow.func = some 6 := by kernel_rfl
theorem instIs : Tryz.f6.isInstance Tryz.pinned.checked.prog Rows.fnExactStateNewRow.origin Rows.fnExactStateNewRow.targs := of_decide_eq_true (by kernel_rfl)
theorem wrapIs : Tryz.f6.isWrapper Tryz.pinned.checked.prog Rows.fnExactStateNewRow.wrapper Rows.fnExactStateNewRow.mainSum := by unfold Func.isWrapper; first | (rw [if_pos (by decide +kernel)]; kernel_rfl) | (rw [if_neg (by decide +kernel)]; exact ⟨rfl, rfl⟩)
theorem over : Rows.fnExactStateNewRow.holds Tryz.pinned (OpenSpec.ofChange Rows.fnExactStateNewSpec) :=
  OpenClaim.holds_of_wide 6 Tryz.f6 rfl rfl rfl rfl rfl rfl rfl ⟨rfl, rfl, rfl, rfl, rfl⟩ rfl rfl rfl rfl rfl fnIs Tryz.func6 closed instIs wrapIs
    (fun os started H enc _ => lifted os started H enc)
end fnExactStateNew
theorem fnExactStateNew_holds : Rows.FnExactStateNewSaid := fnExactStateNew.over
end Go.Proofs.YthfhhldbglaieaaGreat
