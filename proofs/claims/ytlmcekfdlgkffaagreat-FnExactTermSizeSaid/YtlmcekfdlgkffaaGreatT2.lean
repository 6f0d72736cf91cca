/- Walks of Go functions, printed by a program (wip/gen). -/
import Derived.Test.YtlmcekfdlgkffaaGreatT1
namespace Go.Proofs.YtlmcekfdlgkffaaGreat
open Go Go.RowKit
set_option linter.unusedVariables false
set_option linter.unusedSimpArgs false
theorem built_40 : Tryz.prog.built 40 [] = some (List.toArray [.int .i64 0, .int .i64 0, .slice none 0 0]) := by kernel_rfl
theorem built_40_0_1 (x0 : Int) (x1 : Int) : Tryz.prog.built 40 [(0, .int .i64 x0), (1, .int .i64 x1)] = some (List.toArray [.int .i64 x0, .int .i64 x1, .slice none 0 0]) := by kernel_rfl
theorem c_spec_l07Copy (g : GridR) (w : World) (f_g : okGridR 549755813888 w g) (hsm : smGrid 1099511627 g.dat) :
    Calls Tryz.prog 169 #[.agg #[i64 g.W, i64 g.H, .slice g.Cells.A g.Cells.n g.Cells.c]] w fun e w' => ∃ r L1, e = .returned (.agg #[i64 r.W, i64 r.H, .slice r.Cells.A r.Cells.n r.Cells.c]) ∧ St w [] L1 w' ∧ ownGridR r L1 ∧ r.dat = g.dat := by
 have nb_g_Cells := f_g.Cells_n
 have nl_g_Cells := f_g.Cells.len
 have hl9 : g.Cells.xs.length ≤ 1099511627 := hsm
 refine enter (vs := [.agg #[i64 g.W, i64 g.H, .slice g.Cells.A g.Cells.n g.Cells.c]]) 9 Tryz.func169 rfl Tryz.ntmps169 rfl rfl ?_
 have hs1 := St.init w
 refine WC.sr ?_
 refine WL.bx hs1 rfl (fun b2 _ hs3 => ?_)
 refine WL.al hs3 Tryz.zeroValue40 rfl rfl (fun b4 _ hs5 => ?_)
 refine WL.nil ?_
 refine WC.sr ?_
 refine WL.buildF (F := encCell) hs5 ([]) Tryz.runUnderlying38 Tryz.sizeOf65 Tryz.zeroValue65 rfl rfl rfl rfl rfl rfl rfl rfl rfl rfl rfl rfl (fun A9 c10 L6 whs7 hs7 ho8 => ?_)
 replace hs7 := St.back [_, _] hs7
 refine WL.run tbk 2 hs7 [1] rfl ⟨rfl, trivial⟩ ?_
 refine WL.appendG (St.perm hs7 (L' := L6 ++ _) (perm_front (A := [_, _]) (List.Perm.refl _))) ho8 (SlF.src (SlF.st0 f_g.Cells hs7) Tryz.underlying38) Tryz.underlying38 info_65 rfl rfl rfl rfl rfl rfl rfl rfl rfl rfl ?_ (fun A14 c15 L11 whs12 hs12 ho13 => ?_)
 · simp; omega
 replace hs12 := St.back [_, _] hs12
 refine WL.run tbk 1 hs12 [] rfl trivial ?_
 refine WL.st tbk hs12 1 rfl rfl (fun _ hs16 => ?_)
 refine WL.nil ?_
 refine WC.sr ?_
 refine WL.run tbk 1 hs16 [1] rfl ⟨rfl, trivial⟩ ?_
 refine WL.st tbk hs16 0 rfl rfl (fun _ hs17 => ?_)
 refine WL.nil ?_
 refine WC.ret ?_
 refine retV1 rfl (resV.cellA tbk hs17 0 rfl rfl rfl rfl) ?_
 refine ⟨⟨g.W, g.H, SlD.of ho13⟩, _, rfl, (St.keep1 (St.perm hs17 (L' := L11 ++ _) (perm_front (A := [_, _]) (List.Perm.refl _)))), ?_, ?_⟩
 · exact ho13
 · rfl
theorem c_spec_GridNew (w_ : Int) (h_ : Int) (w : World) :
    Calls Tryz.prog 130 #[i64 w_, i64 h_] w fun e w' => ∃ r0 L0, e = .returned (.tuple #[.agg #[i64 r0.W, i64 r0.H, .slice r0.Cells.A r0.Cells.n r0.Cells.c], .bool (isSize w_ h_)]) ∧ St w [] (L0) w' ∧ ownGridR r0 L0 ∧ r0.dat = gridRes w_ h_ := by
 refine enter (vs := [i64 w_, i64 h_]) 46 Tryz.func130 rfl Tryz.ntmps130 rfl rfl ?_
 have hs1 := St.init w
 refine WC.sr ?_
 refine WL.al hs1 Tryz.zeroValue40 rfl rfl (fun b2 _ hs3 => ?_)
 refine WL.run tbk 1 hs3 [] rfl trivial ?_
 refine WL.nil ?_
 refine WC.seq (fun K4 hK4 => ?_)
 refine WC.sr ?_
 refine WL.run tbk 3 hs3 [] rfl trivial ?_
 refine WL.pO tbk 2 Acts.nil hs3 [] rfl rfl rfl rfl (fun g_ => trivial) ?_
 refine WL.run tbk 1 hs3 [] rfl trivial ?_
 refine WL.pO tbk 2 Acts.nil hs3 [] rfl rfl rfl rfl (fun g_ => trivial) ?_
 refine WL.run tbk 1 hs3 [] rfl trivial ?_
 refine WL.pO tbk 2 Acts.nil hs3 [] rfl rfl rfl rfl (fun g_ => trivial) ?_
 refine WL.run tbk 1 hs3 [] rfl trivial ?_
 apply WL.gO 4 Acts.nil hs3 rfl
 ·intro g5 J6
  have qg5 := g5
  try simp only [bf, within_iff, within_not] at qg5
  refine WL.runA tbk 4 (Acts.nil.cons (j := 14) rfl g5) hs3 [] rfl ⟨?_, trivial⟩ ?_
  · (have h9 := mul_size (w := w_) (h := h_) (by omega) (by omega); constructor <;> omega)
  exact WL.eO 4 Acts.nil J6 hs3 g5 rfl rfl
 ·intro _ hs7
  refine WL.nil ?_
  refine WC.cond rfl (fun h8 => ?_) (fun h8 => ?_)
  ·have qh8 := h8
   try simp only [bf, within_iff, within_not] at qh8
   have hm : isSize w_ h_ = false := by rw [← Bool.not_eq_true, isSize_iff]; have h8 := h8; simp at h8; omega
   refine WC.sr ?_
   refine WL.val rfl rfl rfl (Run.build rfl rfl rfl rfl (built_40)) ?_
   refine WL.st tbk hs7 0 rfl rfl (fun _ hs9 => ?_)
   refine WL.run tbk 1 hs9 [] rfl trivial ?_
   refine WL.nil ?_
   refine WC.ret ?_
   refine tkR ?_
   clear hK4
   refine retV2 rfl (resV.cellA tbk hs9 0 rfl rfl rfl rfl) (resV.tmp rfl) ?_
   rw [show isSize w_ h_ = false from hm]
   have hv : gridRes w_ h_ = grid0 := by unfold gridRes; rw [hm]; rfl
   refine ⟨⟨0, 0, ⟨none, 0, 0, []⟩⟩, _, rfl, (St.keep1 (St.perm hs9 (L' := ([] : Hp) ++ _) (perm_front (A := [_]) (List.Perm.refl _)))), ?_, ?_⟩
   · exact (OwnF.nil _ _)
   · rw [hv]; rfl
  ·have qh8 := h8
   try simp only [bf, within_iff, within_not] at qh8
   have hm : isSize w_ h_ = true := by rw [isSize_iff]; have h8 := h8; simp at h8; omega
   obtain ⟨hw, hh, hm1, hm2⟩ := isSize_bnd hm
   refine WC.skip ?_
   refine hK4 _ _ ?_
   refine WC.sr ?_
   refine WL.run tbk 2 hs7 [] rfl trivial ?_
   refine WL.val rfl rfl rfl (Run.build rfl rfl rfl rfl (built_40_0_1 _ _)) ?_
   refine WL.al hs7 Tryz.zeroValue40 rfl rfl (fun b11 _ hs12 => ?_)
   refine WL.st tbk hs12 0 rfl rfl (fun _ hs13 => ?_)
   refine WL.nil ?_
   refine WC.seq (fun K14 hK14 => ?_)
   refine WC.rr tbk hs13 [] rfl trivial ?_
   refine WC.block ?_
   have hM20 := (St.grp1 (L1 := ([] : Hp)) [_] (St.perm (St.perm (St.perm hs13 (L' := [_] ++ _) (perm_front (A := [_]) (List.Perm.refl _))) (L' := ([] : Hp) ++ _) (perm_front (A := [_, _]) (List.Perm.refl _))) (L' := [_] ++ _) (perm_front (A := ([] : Hp)) (perm_front (A := [_]) (List.Perm.refl _)))))
   refine WC.loopV (α := Hp) [(0, _), (1, _), (4, _), (5, _), (6, _), (8, _), (9, _), (10, _), (13, _), (14, _), (17, _), (18, _), (21, _), (22, _), (27, _), (29, _), (30, _), (31, _)] ⟨rfl, rfl, rfl, rfl, rfl, rfl, rfl, rfl, rfl, rfl, rfl, rfl, rfl, rfl, rfl, rfl, rfl, rfl, trivial⟩ (fun a_ => a_) _ hM20 (fun k_ (a_ : Hp) f => ∃ (i : Nat) (zs : List CellD) (A16 : Option Addr) (c17 : Nat) (L18 : Hp), k_ = (w_ * h_).toNat - i ∧ a_ = [(b11, .cells (List.toArray [i64 w_, i64 h_, .slice A16 zs.length c17]) 40 (0, 0))] ++ L18 ∧ (i ≤ (w_ * h_).toNat) ∧ (zs = List.replicate i blankC) ∧ OwnF encCell 65 (.slice A16 (zs).length c17) (zs) L18 ∧ Sub [(7, .int .i64 i)] f) (((fun (i : Nat) (zs : List CellD) => (w_ * h_).toNat - i) (0) ([]))) ?_ ?_
   ·refine ⟨0, [], none, 0, ([] : Hp), rfl, rfl, ?_, ?_, (OwnF.nil _ _), ⟨rfl, trivial⟩⟩
    · omega
    · rfl
   ·rintro _ _ f w ⟨i, zs, A16, c17, L18, rfl, rfl, p0, p1, ho19, hG⟩ hF hs21
    refine WC.sub _ (hG.app hF) ?_
    clear hG hF
    replace hs21 := St.ungrp1 [_] hs21
    have hs22 := (St.perm (St.perm hs21 (L' := [_] ++ _) (perm_front (A := [_]) (perm_front (A := L18) (List.Perm.refl _)))) (L' := [_] ++ _) (perm_front (A := [_]) (List.Perm.refl _)))
    have hzl : zs.length = i := by rw [p1]; simp
    refine WC.seq (fun K23 hK23 => ?_)
    refine WC.sr ?_
    refine WL.run tbk 5 hs22 [] rfl ⟨?_, trivial⟩ ?_
    · constructor <;> omega
    refine WL.nil ?_
    refine WC.cond rfl (fun h24 => ?_) (fun h24 => ?_)
    ·have qh24 := h24
     try simp only [bf, within_iff, within_not] at qh24
     refine WC.skip ?_
     refine hK23 _ _ ?_
     refine WC.seq (fun K25 hK25 => ?_)
     refine WC.block ?_
     refine WC.regionH2 (fun w' => St _ _ _ w') (fun w' => St _ _ _ w') mixed (St.drew (St.drop (St.perm (St.drop hs22 (List.sublist_append_right [_] _)) (L' := L18 ++ _) (perm_front (A := [_]) (List.Perm.refl _))) (List.sublist_append_right L18 _))) (St.drew hs22) (fun whs26 hs26 => ?_)
     replace hs26 : St _ _ _ _ := hs26
     refine WH.take 0 rfl (by kernel_rfl) rfl rfl rfl (St.drop (St.perm (St.drop hs26 (List.sublist_append_right [_] _)) (L' := L18 ++ _) (perm_front (A := [_]) (List.Perm.refl _))) (List.sublist_append_right L18 _)) (fun w_ hs_ => (Run.field Tryz.runUnderlying40 rfl rfl rfl Tryz.sizeOf38 rfl)) ?_
     refine WH.all [1, 2] (by kernel_rfl) rfl (WHs.cons (i := 1) rfl ?_ (WHs.cons (i := 2) rfl ?_ WHs.nil))
     ·refine WL.run tbk 1 hs26 [0] rfl ⟨rfl, trivial⟩ ?_
      refine WL.nil ⟨(St.drop (St.perm (St.drop hs26 (List.sublist_append_right [_] _)) (L' := L18 ++ _) (perm_front (A := [_]) (List.Perm.refl _))) (List.sublist_append_right L18 _)), ?_⟩
      refine WH.all [2] (by kernel_rfl) rfl (WHs.cons (i := 2) rfl ?_ WHs.nil)
      refine WL.call rfl rfl rfl (Run.call Tryz.call191 rfl rfl rfl) (c_spec_l07Blank _) ?_
      rintro _ whs27 ⟨rfl, hs27⟩
      replace hs27 := hs26.call0 hs27
      refine ⟨_, rfl, ?_⟩
      refine WL.nil ⟨(St.drop (St.perm (St.drop hs27 (List.sublist_append_right [_] _)) (L' := L18 ++ _) (perm_front (A := [_]) (List.Perm.refl _))) (List.sublist_append_right L18 _)), ?_⟩
      refine WH.all [3] (by kernel_rfl) rfl (WHs.cons (i := 3) rfl ?_ WHs.nil)
      refine WL.buildF (F := encCell) hs27 ([blankC]) Tryz.runUnderlying38 Tryz.sizeOf65 Tryz.zeroValue65 rfl rfl rfl rfl rfl rfl rfl rfl rfl rfl rfl rfl (fun A31 c32 L28 whs29 hs29 ho30 => ?_)
      replace hs29 := St.back [_, _] hs29
      refine WL.nil ⟨(St.drop (St.perm (St.drop (St.perm (St.drop hs29 (List.sublist_append_right [_] _)) (L' := L28 ++ _) (perm_front (A := [_]) (List.Perm.refl _))) (List.sublist_append_right L28 _)) (L' := L18 ++ _) (perm_front (A := [_]) (List.Perm.refl _))) (List.sublist_append_right L18 _)), ?_⟩
      refine WH.all [4] (by kernel_rfl) rfl (WHs.cons (i := 4) rfl ?_ WHs.nil)
      refine WL.appendG (St.perm hs29 (L' := L18 ++ _) (perm_front (A := [_, _]) (perm_front (A := L28) (List.Perm.refl _)))) ho19 (SlF.src (SlF.ofOwn ho30 (fun p_ hp_ => (hs29.own p_ (List.mem_append_right [_, _] (List.mem_append_left _ hp_))).1)) Tryz.underlying38) Tryz.underlying38 info_65 rfl rfl rfl rfl rfl rfl rfl rfl rfl rfl ?_ (fun A36 c37 L33 whs34 hs34 ho35 => ?_)
      · simp; omega
      replace hs34 := St.back [_, _] hs34
      refine WL.nil ⟨(St.drop (St.perm (St.drop (St.perm (St.drop hs34 (List.sublist_append_right [_] _)) (L' := L33 ++ _) (perm_front (A := [_]) (List.Perm.refl _))) (List.sublist_append_right L33 _)) (L' := L28 ++ _) (perm_front (A := [_]) (List.Perm.refl _))) (List.sublist_append_right L28 _)), ?_⟩
      refine WH.take 5 rfl (by kernel_rfl) rfl rfl rfl (St.drop (St.perm (St.drop (St.perm (St.drop hs34 (List.sublist_append_right [_] _)) (L' := L33 ++ _) (perm_front (A := [_]) (List.Perm.refl _))) (List.sublist_append_right L33 _)) (L' := L28 ++ _) (perm_front (A := [_]) (List.Perm.refl _))) (List.sublist_append_right L28 _)) (fun w_ hs_ => (Run.field Tryz.runUnderlying40 rfl rfl rfl Tryz.sizeOf38 rfl)) ?_
      refine WH.all [6] (by kernel_rfl) rfl (WHs.cons (i := 6) rfl ?_ WHs.nil)
      refine WL.st tbk hs34 0 rfl rfl (fun _ hs38 => ?_)
      refine WL.nil ⟨(St.drop (St.perm (St.drop (St.perm (St.drop hs38 (List.sublist_append_right [_] _)) (L' := L33 ++ _) (perm_front (A := [_]) (List.Perm.refl _))) (List.sublist_append_right L33 _)) (L' := L28 ++ _) (perm_front (A := [_]) (List.Perm.refl _))) (List.sublist_append_right L28 _)), ?_⟩
      refine WH.done (by kernel_rfl) ?_
      refine hK25 _ _ ?_
      refine WC.region ?_
      refine WL.run tbk 3 hs38 [] rfl ⟨by omega, trivial⟩ ?_
      refine WL.nil ?_
      refine tkN ?_
      replace hs38 := St.drop (St.perm hs38 (L' := L28 ++ _) (perm_front (A := [_, _]) (perm_front (A := L33) (List.Perm.refl _)))) (List.sublist_append_right L28 _)
      have hF39 := (St.grp1 (L1 := L33) [_] (St.perm (St.perm (St.perm hs38 (L' := [_] ++ _) (perm_front (A := [_]) (List.Perm.refl _))) (L' := L33 ++ _) (perm_front (A := [_, _]) (List.Perm.refl _))) (L' := [_] ++ _) (perm_front (A := L33) (perm_front (A := [_]) (List.Perm.refl _)))))
      refine ⟨⟨rfl, rfl, rfl, rfl, rfl, rfl, rfl, rfl, rfl, rfl, rfl, rfl, rfl, rfl, rfl, rfl, rfl, rfl, trivial⟩, _, hF39, _, ?_, i + 1, _, A36, c37, L33, rfl, rfl, ?_, ?_, ho35, ⟨rfl, trivial⟩⟩
      · omega
      · omega
      · rw [p1]; exact List.replicate_succ'.symm
     ·refine WL.call rfl rfl rfl (Run.call Tryz.call191 rfl rfl rfl) (c_spec_l07Blank _) ?_
      rintro _ whs40 ⟨rfl, hs40⟩
      replace hs40 := hs26.call0 hs40
      refine ⟨_, rfl, ?_⟩
      refine WL.nil ⟨(St.drop (St.perm (St.drop hs40 (List.sublist_append_right [_] _)) (L' := L18 ++ _) (perm_front (A := [_]) (List.Perm.refl _))) (List.sublist_append_right L18 _)), ?_⟩
      refine WH.all [1, 3] (by kernel_rfl) rfl (WHs.cons (i := 1) rfl ?_ (WHs.cons (i := 3) rfl ?_ WHs.nil))
      ·refine WL.run tbk 1 hs40 [0] rfl ⟨rfl, trivial⟩ ?_
       refine WL.nil ⟨(St.drop (St.perm (St.drop hs40 (List.sublist_append_right [_] _)) (L' := L18 ++ _) (perm_front (A := [_]) (List.Perm.refl _))) (List.sublist_append_right L18 _)), ?_⟩
       refine WH.all [3] (by kernel_rfl) rfl (WHs.cons (i := 3) rfl ?_ WHs.nil)
       refine WL.buildF (F := encCell) hs40 ([blankC]) Tryz.runUnderlying38 Tryz.sizeOf65 Tryz.zeroValue65 rfl rfl rfl rfl rfl rfl rfl rfl rfl rfl rfl rfl (fun A44 c45 L41 whs42 hs42 ho43 => ?_)
       replace hs42 := St.back [_, _] hs42
       refine WL.nil ⟨(St.drop (St.perm (St.drop (St.perm (St.drop hs42 (List.sublist_append_right [_] _)) (L' := L41 ++ _) (perm_front (A := [_]) (List.Perm.refl _))) (List.sublist_append_right L41 _)) (L' := L18 ++ _) (perm_front (A := [_]) (List.Perm.refl _))) (List.sublist_append_right L18 _)), ?_⟩
       refine WH.all [4] (by kernel_rfl) rfl (WHs.cons (i := 4) rfl ?_ WHs.nil)
       refine WL.appendG (St.perm hs42 (L' := L18 ++ _) (perm_front (A := [_, _]) (perm_front (A := L41) (List.Perm.refl _)))) ho19 (SlF.src (SlF.ofOwn ho43 (fun p_ hp_ => (hs42.own p_ (List.mem_append_right [_, _] (List.mem_append_left _ hp_))).1)) Tryz.underlying38) Tryz.underlying38 info_65 rfl rfl rfl rfl rfl rfl rfl rfl rfl rfl ?_ (fun A49 c50 L46 whs47 hs47 ho48 => ?_)
       · simp; omega
       replace hs47 := St.back [_, _] hs47
       refine WL.nil ⟨(St.drop (St.perm (St.drop (St.perm (St.drop hs47 (List.sublist_append_right [_] _)) (L' := L46 ++ _) (perm_front (A := [_]) (List.Perm.refl _))) (List.sublist_append_right L46 _)) (L' := L41 ++ _) (perm_front (A := [_]) (List.Perm.refl _))) (List.sublist_append_right L41 _)), ?_⟩
       refine WH.take 5 rfl (by kernel_rfl) rfl rfl rfl (St.drop (St.perm (St.drop (St.perm (St.drop hs47 (List.sublist_append_right [_] _)) (L' := L46 ++ _) (perm_front (A := [_]) (List.Perm.refl _))) (List.sublist_append_right L46 _)) (L' := L41 ++ _) (perm_front (A := [_]) (List.Perm.refl _))) (List.sublist_append_right L41 _)) (fun w_ hs_ => (Run.field Tryz.runUnderlying40 rfl rfl rfl Tryz.sizeOf38 rfl)) ?_
       refine WH.all [6] (by kernel_rfl) rfl (WHs.cons (i := 6) rfl ?_ WHs.nil)
       refine WL.st tbk hs47 0 rfl rfl (fun _ hs51 => ?_)
       refine WL.nil ⟨(St.drop (St.perm (St.drop (St.perm (St.drop hs51 (List.sublist_append_right [_] _)) (L' := L46 ++ _) (perm_front (A := [_]) (List.Perm.refl _))) (List.sublist_append_right L46 _)) (L' := L41 ++ _) (perm_front (A := [_]) (List.Perm.refl _))) (List.sublist_append_right L41 _)), ?_⟩
       refine WH.done (by kernel_rfl) ?_
       refine hK25 _ _ ?_
       refine WC.region ?_
       refine WL.run tbk 3 hs51 [] rfl ⟨by omega, trivial⟩ ?_
       refine WL.nil ?_
       refine tkN ?_
       replace hs51 := St.drop (St.perm hs51 (L' := L41 ++ _) (perm_front (A := [_, _]) (perm_front (A := L46) (List.Perm.refl _)))) (List.sublist_append_right L41 _)
       have hF52 := (St.grp1 (L1 := L46) [_] (St.perm (St.perm (St.perm hs51 (L' := [_] ++ _) (perm_front (A := [_]) (List.Perm.refl _))) (L' := L46 ++ _) (perm_front (A := [_, _]) (List.Perm.refl _))) (L' := [_] ++ _) (perm_front (A := L46) (perm_front (A := [_]) (List.Perm.refl _)))))
       refine ⟨⟨rfl, rfl, rfl, rfl, rfl, rfl, rfl, rfl, rfl, rfl, rfl, rfl, rfl, rfl, rfl, rfl, rfl, rfl, trivial⟩, _, hF52, _, ?_, i + 1, _, A49, c50, L46, rfl, rfl, ?_, ?_, ho48, ⟨rfl, trivial⟩⟩
       · omega
       · omega
       · rw [p1]; exact List.replicate_succ'.symm
      ·refine WL.buildF (F := encCell) hs40 ([blankC]) Tryz.runUnderlying38 Tryz.sizeOf65 Tryz.zeroValue65 rfl rfl rfl rfl rfl rfl rfl rfl rfl rfl rfl rfl (fun A56 c57 L53 whs54 hs54 ho55 => ?_)
       replace hs54 := St.back [_, _] hs54
       refine WL.nil ⟨(St.drop (St.perm (St.drop (St.perm (St.drop hs54 (List.sublist_append_right [_] _)) (L' := L53 ++ _) (perm_front (A := [_]) (List.Perm.refl _))) (List.sublist_append_right L53 _)) (L' := L18 ++ _) (perm_front (A := [_]) (List.Perm.refl _))) (List.sublist_append_right L18 _)), ?_⟩
       refine WH.all [1] (by kernel_rfl) rfl (WHs.cons (i := 1) rfl ?_ WHs.nil)
       refine WL.run tbk 1 hs54 [0] rfl ⟨rfl, trivial⟩ ?_
       refine WL.nil ⟨(St.drop (St.perm (St.drop (St.perm (St.drop hs54 (List.sublist_append_right [_] _)) (L' := L53 ++ _) (perm_front (A := [_]) (List.Perm.refl _))) (List.sublist_append_right L53 _)) (L' := L18 ++ _) (perm_front (A := [_]) (List.Perm.refl _))) (List.sublist_append_right L18 _)), ?_⟩
       refine WH.all [4] (by kernel_rfl) rfl (WHs.cons (i := 4) rfl ?_ WHs.nil)
       refine WL.appendG (St.perm hs54 (L' := L18 ++ _) (perm_front (A := [_, _]) (perm_front (A := L53) (List.Perm.refl _)))) ho19 (SlF.src (SlF.ofOwn ho55 (fun p_ hp_ => (hs54.own p_ (List.mem_append_right [_, _] (List.mem_append_left _ hp_))).1)) Tryz.underlying38) Tryz.underlying38 info_65 rfl rfl rfl rfl rfl rfl rfl rfl rfl rfl ?_ (fun A61 c62 L58 whs59 hs59 ho60 => ?_)
       · simp; omega
       replace hs59 := St.back [_, _] hs59
       refine WL.nil ⟨(St.drop (St.perm (St.drop (St.perm (St.drop hs59 (List.sublist_append_right [_] _)) (L' := L58 ++ _) (perm_front (A := [_]) (List.Perm.refl _))) (List.sublist_append_right L58 _)) (L' := L53 ++ _) (perm_front (A := [_]) (List.Perm.refl _))) (List.sublist_append_right L53 _)), ?_⟩
       refine WH.take 5 rfl (by kernel_rfl) rfl rfl rfl (St.drop (St.perm (St.drop (St.perm (St.drop hs59 (List.sublist_append_right [_] _)) (L' := L58 ++ _) (perm_front (A := [_]) (List.Perm.refl _))) (List.sublist_append_right L58 _)) (L' := L53 ++ _) (perm_front (A := [_]) (List.Perm.refl _))) (List.sublist_append_right L53 _)) (fun w_ hs_ => (Run.field Tryz.runUnderlying40 rfl rfl rfl Tryz.sizeOf38 rfl)) ?_
       refine WH.all [6] (by kernel_rfl) rfl (WHs.cons (i := 6) rfl ?_ WHs.nil)
       refine WL.st tbk hs59 0 rfl rfl (fun _ hs63 => ?_)
       refine WL.nil ⟨(St.drop (St.perm (St.drop (St.perm (St.drop hs63 (List.sublist_append_right [_] _)) (L' := L58 ++ _) (perm_front (A := [_]) (List.Perm.refl _))) (List.sublist_append_right L58 _)) (L' := L53 ++ _) (perm_front (A := [_]) (List.Perm.refl _))) (List.sublist_append_right L53 _)), ?_⟩
       refine WH.done (by kernel_rfl) ?_
       refine hK25 _ _ ?_
       refine WC.region ?_
       refine WL.run tbk 3 hs63 [] rfl ⟨by omega, trivial⟩ ?_
       refine WL.nil ?_
       refine tkN ?_
       replace hs63 := St.drop (St.perm hs63 (L' := L53 ++ _) (perm_front (A := [_, _]) (perm_front (A := L58) (List.Perm.refl _)))) (List.sublist_append_right L53 _)
       have hF64 := (St.grp1 (L1 := L58) [_] (St.perm (St.perm (St.perm hs63 (L' := [_] ++ _) (perm_front (A := [_]) (List.Perm.refl _))) (L' := L58 ++ _) (perm_front (A := [_, _]) (List.Perm.refl _))) (L' := [_] ++ _) (perm_front (A := L58) (perm_front (A := [_]) (List.Perm.refl _)))))
       refine ⟨⟨rfl, rfl, rfl, rfl, rfl, rfl, rfl, rfl, rfl, rfl, rfl, rfl, rfl, rfl, rfl, rfl, rfl, rfl, trivial⟩, _, hF64, _, ?_, i + 1, _, A61, c62, L58, rfl, rfl, ?_, ?_, ho60, ⟨rfl, trivial⟩⟩
       · omega
       · omega
       · rw [p1]; exact List.replicate_succ'.symm
    ·have qh24 := h24
     try simp only [bf, within_iff, within_not] at qh24
     refine WC.exit ?_
     refine hK14 _ _ ?_
     refine WC.sr ?_
     refine WL.run tbk 1 hs22 [0] rfl ⟨rfl, trivial⟩ ?_
     refine WL.st tbk hs22 1 rfl rfl (fun _ hs65 => ?_)
     refine WL.run tbk 1 hs65 [] rfl trivial ?_
     refine WL.nil ?_
     refine WC.ret ?_
     refine retV2 rfl (resV.cellA tbk hs65 1 rfl rfl rfl rfl) (resV.tmp rfl) ?_
     rw [hm]
     have hv : gridRes w_ h_ = gridNew w_ h_ := by unfold gridRes; rw [hm]; rfl
     refine ⟨⟨w_, h_, SlD.of ho19⟩, _, rfl, (St.keep1 (St.perm hs65 (L' := L18 ++ _) (perm_front (A := [_, _]) (List.Perm.refl _)))), ?_, ?_⟩
     · exact ho19
     · rw [hv]; show GridD.mk w_ h_ zs = _; rw [p1, show i = (w_ * h_).toNat by omega]; rfl
theorem c_spec_l09Tabs (w_ : Int) (w : World) (hw : 1 ≤ w_ ∧ w_ ≤ 120) :
    Calls Tryz.prog 134 #[i64 w_] w fun e w' => ∃ A c L1, e = .returned (.slice A (tabsL w_).length c) ∧ St w [] L1 w' ∧ OwnF encI 3 (.slice A (tabsL w_).length c) (tabsL w_) L1 := by
 refine enter (vs := [i64 w_]) 16 Tryz.func134 rfl Tryz.ntmps134 rfl rfl ?_
 have hs1 := St.init w
 refine WC.rr tbk hs1 [] rfl trivial ?_
 refine WC.sr ?_
 refine WL.buildF (F := encI) hs1 ([]) Tryz.runUnderlying22 Tryz.sizeOf3 Tryz.zeroValue3 rfl rfl rfl rfl rfl rfl rfl rfl rfl rfl rfl rfl (fun A5 c6 L2 whs3 hs3 ho4 => ?_)
 refine WL.run tbk 1 hs3 [] rfl trivial ?_
 refine WL.nil ?_
 refine WC.seq (fun K7 hK7 => ?_)
 refine WC.rr tbk hs3 [] rfl trivial ?_
 refine WC.block ?_
 refine WC.loopO [(0, _), (2, _), (5, _)] ⟨rfl, rfl, rfl, trivial⟩ hs3 (fun k_ f L_ => ∃ (i : Nat) (A8 : Option Addr) (c9 : Nat), k_ = 121 - i ∧ (i = 0 ∨ 8 * (i : Int) < w_) ∧ (i ≤ 120) ∧ OwnF encI 3 (.slice A8 (((List.range i).map (fun i : Nat => 8 * ((i : Int) + 1))).length) c9) (((List.range i).map (fun i : Nat => 8 * ((i : Int) + 1)))) L_ ∧ Sub [(3, .slice A8 (((List.range i).map (fun i : Nat => 8 * ((i : Int) + 1))).length) c9), (4, .int .i64 (8 * ((i : Int) + 1)))] f) (((fun (i : Nat) => 121 - i) (0))) ?_ ?_
 ·refine ⟨0, _, _, rfl, ?_, ?_, ho4, ⟨?_, ?_, trivial⟩⟩
  · exact .inl rfl
  · omega
  · rfl
  · rfl
 ·clear hs3
  rintro _ f w L10 ⟨i, A8, c9, rfl, p0, p1, ho11, hG⟩ hF hs12
  refine WC.sub _ (hG.app hF) ?_
  clear hG hF
  have hlt : (((List.range i).map (fun i : Nat => 8 * ((i : Int) + 1)))).length = i := by simp
  refine WC.seq (fun K13 hK13 => ?_)
  refine WC.rr tbk hs12 [] rfl trivial ?_
  refine WC.cond rfl (fun h14 => ?_) (fun h14 => ?_)
  ·have qh14 := h14
   try simp only [bf, within_iff, within_not] at qh14
   refine WC.skip ?_
   refine hK13 _ _ ?_
   refine WC.seq (fun K15 hK15 => ?_)
   refine WC.block ?_
   refine WC.region ?_
   refine WL.run tbk 2 hs12 [] rfl trivial ?_
   refine WL.buildSlice hs12 Tryz.runUnderlying22 Tryz.sizeOf3 Tryz.zeroValue3 rfl rfl rfl rfl rfl rfl rfl rfl rfl rfl (fun b16 whs17 hs17 => ?_)
   refine WL.appendG (St.perm hs17 (L' := L10 ++ _) (perm_front (A := [_]) (List.Perm.refl _))) ho11 (srcI1 Tryz.underlying22 (hs17.own _ (nthL_mem (i := 0) rfl)).1) Tryz.underlying22 info_3 rfl rfl rfl rfl rfl rfl rfl rfl rfl rfl ?_ (fun A21 c22 L18 whs19 hs19 ho20 => ?_)
   · simp; omega
   replace hs19 := St.back [_] hs19
   refine WL.run tbk 1 hs19 [] rfl trivial ?_
   refine WL.nil ?_
   refine hK15 _ _ ?_
   refine WC.region ?_
   refine WL.run tbk 3 hs19 [] rfl ⟨by omega, trivial⟩ ?_
   refine WL.nil ?_
   refine tkN ?_
   replace hs19 := St.drop hs19 (List.sublist_append_right [_] _)
   refine ⟨⟨rfl, rfl, rfl, trivial⟩, _, hs19, _, ?_, i + 1, _, _, rfl, ?_, ?_, (tabsL_take (w := w_) (by omega) ▸ ho20), ⟨?_, ?_, trivial⟩⟩
   · omega
   · right; omega
   · omega
   · (rw [tabsL_take (w := w_) (i := i) (by omega)]; rfl)
   · (refine congrArg some (congrArg (Value.int _) ?_); omega)
  ·have qh14 := h14
   try simp only [bf, within_iff, within_not] at qh14
   refine WC.exit ?_
   refine hK7 _ _ ?_
   refine WC.rr tbk hs12 [] rfl trivial ?_
   refine WC.ret ?_
   refine retV1 rfl (resV.tmp rfl) ?_
   have hx_ := OwnF.eqOf (xs := tabsL w_) ho11 (by exact tabsL_end (by omega) p0)
   rw [← hx_]
   first | exact ⟨_, _, _, rfl, (St.keep1 hs12), ho11⟩ | exact ⟨A8, c9, _, by rw [OwnF.len_ ho11], (St.keep1 hs12), by rw [OwnF.len_ ho11]; exact ho11⟩
theorem c_spec_ScrNew (w_ : Int) (h_ : Int) (l : Int) (w : World) :
    Calls Tryz.prog 92 #[i64 w_, i64 h_, i64 l] w fun e w' => ∃ r0 L0, e = .returned (.tuple #[.agg #[i64 r0.W, i64 r0.H, i64 r0.Main.W, i64 r0.Main.H, .slice r0.Main.Cells.A r0.Main.Cells.n r0.Main.Cells.c, i64 r0.Alt.W, i64 r0.Alt.H, .slice r0.Alt.Cells.A r0.Alt.Cells.n r0.Alt.Cells.c, .bool r0.OnAlt, i64 r0.X, i64 r0.Y, .bool r0.Wrap, i64 r0.A.Fg, i64 r0.A.Bg, .bool r0.A.Bold, .bool r0.A.Under, .bool r0.A.Turn, i64 r0.Top, i64 r0.Bot, .bool r0.NoWrap, .bool r0.Hide, i64 r0.SaveX, i64 r0.SaveY, i64 r0.SaveA.Fg, i64 r0.SaveA.Bg, .bool r0.SaveA.Bold, .bool r0.SaveA.Under, .bool r0.SaveA.Turn, .slice r0.Tabs.A r0.Tabs.n r0.Tabs.c, i64 r0.Limit, .slice r0.Back.A r0.Back.n r0.Back.c], .bool (scrMay w_ h_ l)]) ∧ St w [] (L0) w' ∧ ownScrR r0 L0 ∧ r0.dat = scrRes w_ h_ l := by
 refine enter (vs := [i64 w_, i64 h_, i64 l]) 38 Tryz.func92 rfl Tryz.ntmps92 rfl rfl ?_
 have hs1 := St.init w
 refine WC.sr ?_
 refine WL.al hs1 Tryz.zeroValue44 rfl rfl (fun b2 _ hs3 => ?_)
 refine WL.run tbk 1 hs3 [] rfl trivial ?_
 refine WL.nil ?_
 refine WC.sr ?_
 refine WL.run tbk 2 hs3 [] rfl trivial ?_
 refine WL.call rfl rfl rfl (Run.call Tryz.call130 rfl rfl rfl) (c_spec_GridNew _ _ _) ?_
 rintro _ whs4 ⟨r0_5, L0_6, rfl, hs4, ho7, hd0_8⟩
 replace hs4 := hs3.callF hs4
 refine ⟨_, rfl, ?_⟩
 replace hs4 := St.back [_] hs4
 refine WL.run tbk 3 hs4 [] rfl trivial ?_
 refine WL.al hs4 Tryz.zeroValue40 rfl rfl (fun b9 _ hs10 => ?_)
 refine WL.st tbk hs10 0 rfl rfl (fun _ hs11 => ?_)
 refine WL.run tbk 1 hs11 [] rfl trivial ?_
 refine WL.nil ?_
 refine WC.seq (fun K12 hK12 => ?_)
 refine WC.sr ?_
 refine WL.run tbk 3 hs11 [] rfl trivial ?_
 refine WL.pO tbk 2 Acts.nil hs11 [] rfl rfl rfl rfl (fun g_ => trivial) ?_
 refine WL.run tbk 1 hs11 [] rfl trivial ?_
 refine WL.pO tbk 2 Acts.nil hs11 [] rfl rfl rfl rfl (fun g_ => trivial) ?_
 refine WL.nil ?_
 refine WC.cond rfl (fun h13 => ?_) (fun h13 => ?_)
 ·have qh13 := h13
  try simp only [bf, within_iff, within_not] at qh13
  have hm : scrMay w_ h_ l = false := by rw [← Bool.not_eq_true]; intro h9; unfold scrMay at h9; rw [Bool.and_eq_true, within_iff] at h9; have h8 := h13; simp [h9.1] at h8; omega
  refine WC.sr ?_
  refine WL.val rfl rfl rfl (Run.build rfl rfl rfl rfl (built_44)) ?_
  refine WL.st tbk hs11 1 rfl rfl (fun _ hs14 => ?_)
  refine WL.run tbk 1 hs14 [] rfl trivial ?_
  refine WL.nil ?_
  refine WC.ret ?_
  refine tkR ?_
  clear hK12
  refine retV2 rfl (resV.cellA tbk hs14 1 rfl rfl rfl rfl) (resV.tmp rfl) ?_
  rw [hm]
  have hv : scrRes w_ h_ l = scr0 := by unfold scrRes; rw [hm]; rfl
  obtain ⟨L20, hs19, ho21⟩ := ownScrR.fold ⟨0, 0, ⟨0, 0, ⟨_, _, _, _⟩⟩, ⟨0, 0, ⟨_, _, _, _⟩⟩, false, 0, 0, false, ⟨0, 0, false, false, false⟩, 0, 0, false, false, 0, 0, ⟨0, 0, false, false, false⟩, ⟨_, _, _, _⟩, 0, ⟨_, _, _, _⟩⟩ (St.perm (St.perm (St.perm (St.perm hs14 (L' := ([] : Hp) ++ _) (perm_front (A := [_, _]) (List.Perm.refl _))) (L' := ([] : Hp) ++ _) (perm_front (A := ([] : Hp)) (perm_front (A := [_, _]) (List.Perm.refl _)))) (L' := ([] : Hp) ++ _) (perm_front (A := ([] : Hp)) (perm_front (A := ([] : Hp)) (perm_front (A := [_, _]) (List.Perm.refl _))))) (L' := ([] : Hp) ++ _) (perm_front (A := ([] : Hp)) (perm_front (A := ([] : Hp)) (perm_front (A := ([] : Hp)) (perm_front (A := [_, _]) (List.Perm.refl _)))))) (OwnF.nil _ _) (OwnF.nil _ _) (OwnF.nil _ _) (OwnN.nil _ _ _)
  have hs22 := (St.perm (St.perm hs19 (L' := [_] ++ _) (perm_front (A := L20) (perm_front (A := [_]) (List.Perm.refl _)))) (L' := [_] ++ _) (perm_front (A := [_]) (perm_front (A := L20) (List.Perm.refl _))))
  refine ⟨⟨0, 0, ⟨0, 0, ⟨none, 0, 0, []⟩⟩, ⟨0, 0, ⟨none, 0, 0, []⟩⟩, false, 0, 0, false, ⟨0, 0, false, false, false⟩, 0, 0, false, false, 0, 0, ⟨0, 0, false, false, false⟩, ⟨none, 0, 0, []⟩, 0, ⟨none, 0, 0, []⟩⟩, _, rfl, (St.keep1 (St.perm hs22 (L' := L20 ++ _) (perm_front (A := [_, _]) (List.Perm.refl _)))), ?_, ?_⟩
  · exact (by exact ho21)
  · rw [hv]; rfl
 ·have qh13 := h13
  try simp only [bf, within_iff, within_not] at qh13
  have hm : scrMay w_ h_ l = true := by unfold scrMay; rw [Bool.and_eq_true, within_iff]; have h8 := h13; simp at h8; exact ⟨h8.1.1, by omega⟩
  have hs : isSize w_ h_ = true := by unfold scrMay at hm; rw [Bool.and_eq_true] at hm; exact hm.1
  obtain ⟨hw, hh, hm1, hm2⟩ := isSize_bnd hs
  have hgr : gridRes w_ h_ = gridNew w_ h_ := by unfold gridRes; rw [hs]; rfl
  have hgB : smGrid 1099511627 (gridRes w_ h_) := by rw [hgr]; show (List.replicate _ _).length ≤ _; rw [List.length_replicate]; omega
  have hgB2 : smGrid 549755813888 (gridRes w_ h_) := Nat.le_trans hgB (by decide)
  refine WC.skip ?_
  refine hK12 _ _ ?_
  refine WC.seq (fun K23 hK23 => ?_)
  refine WC.regionH2 (fun w' => St _ _ _ w') (fun w' => St _ _ _ w') mixed (St.drew (St.drop hs11 (List.Sublist.cons_cons _ (List.Sublist.cons _ (List.Sublist.refl _))))) (St.drew hs11) (fun whs24 hs24 => ?_)
  replace hs24 : St _ _ _ _ := hs24
  refine WH.take 0 rfl (by kernel_rfl) rfl rfl rfl (St.drop hs24 (List.Sublist.cons_cons _ (List.Sublist.cons _ (List.Sublist.refl _)))) (fun w_ hs_ => (Run.move rfl rfl)) ?_
  refine WH.take 1 rfl (by kernel_rfl) rfl rfl rfl (St.drop hs24 (List.Sublist.cons_cons _ (List.Sublist.cons _ (List.Sublist.refl _)))) (fun w_ hs_ => (Run.move rfl rfl)) ?_
  refine WH.take 2 rfl (by kernel_rfl) rfl rfl rfl (St.drop hs24 (List.Sublist.cons_cons _ (List.Sublist.cons _ (List.Sublist.refl _)))) (fun w_ hs_ => (Run.loadLA (hs_ : St _ _ _ _) 0 Tryz.isAgg40 Tryz.sizeOf40 rfl rfl rfl rfl rfl)) ?_
  refine WH.take 3 rfl (by kernel_rfl) rfl rfl rfl (St.drop hs24 (List.Sublist.cons_cons _ (List.Sublist.cons _ (List.Sublist.refl _)))) (fun w_ hs_ => (Run.loadLA (hs_ : St _ _ _ _) 0 Tryz.isAgg40 Tryz.sizeOf40 rfl rfl rfl rfl rfl)) ?_
  refine WH.take 5 rfl (by kernel_rfl) rfl rfl rfl (St.drop hs24 (List.Sublist.cons_cons _ (List.Sublist.cons _ (List.Sublist.refl _)))) (fun w_ hs_ => (Run.move rfl rfl)) ?_
  refine WH.take 6 rfl (by kernel_rfl) rfl rfl rfl (St.drop hs24 (List.Sublist.cons_cons _ (List.Sublist.cons _ (List.Sublist.refl _)))) (fun w_ hs_ => (Run.sub rfl rfl rfl ?_)) ?_
  · constructor <;> omega
  refine WH.take 7 rfl (by kernel_rfl) rfl rfl rfl (St.drop hs24 (List.Sublist.cons_cons _ (List.Sublist.cons _ (List.Sublist.refl _)))) (fun w_ hs_ => (Run.move rfl rfl)) ?_
  refine WH.take 9 rfl (by kernel_rfl) rfl rfl rfl (St.drop hs24 (List.Sublist.cons_cons _ (List.Sublist.cons _ (List.Sublist.refl _)))) (fun w_ hs_ => (Run.move rfl rfl)) ?_
  refine WH.all [4] (by kernel_rfl) rfl (WHs.cons (i := 4) rfl ?_ WHs.nil)
  refine WL.call rfl rfl rfl (Run.call Tryz.call169 rfl rfl rfl) (c_spec_l07Copy r0_5 _ (ownGridR.ok (B := 549755813888) ho7 (fun p_ hp_ => (hs24.own p_ (List.mem_append_right [_, _] (List.mem_append_left _ hp_))).1) (by rw [hd0_8]; assumption)) ?_) ?_
  · first | (first | assumption | rfl | omega) | (first | omega | assumption | (rw [hd0_8]; assumption))
  rintro _ whs25 ⟨r26, L1_27, rfl, hs25, ho28, hd29⟩
  replace hs25 := hs24.callF hs25
  refine ⟨_, rfl, ?_⟩
  replace hs25 := St.back [_, _] hs25
  refine WL.nil ⟨(St.drop (St.perm (St.drop hs25 (List.Sublist.cons_cons _ (List.Sublist.cons _ (List.Sublist.refl _)))) (L' := L1_27 ++ _) (perm_front (A := [_]) (List.Perm.refl _))) (List.sublist_append_right L1_27 _)), ?_⟩
  refine WH.all [8] (by kernel_rfl) rfl (WHs.cons (i := 8) rfl ?_ WHs.nil)
  refine WL.call rfl rfl rfl (Run.call Tryz.call134 rfl rfl rfl) (c_spec_l09Tabs _ _ ?_) ?_
  · first | (first | assumption | rfl | omega) | (first | omega | assumption | (rw [hd0_8]; assumption))
  rintro _ whs30 ⟨A31, c32, L1_33, rfl, hs30, ho34⟩
  replace hs30 := hs25.callF hs30
  refine ⟨_, rfl, ?_⟩
  replace hs30 := St.back [_, _] hs30
  refine WL.nil ⟨(St.drop (St.perm (St.drop (St.perm (St.drop hs30 (List.Sublist.cons_cons _ (List.Sublist.cons _ (List.Sublist.refl _)))) (L' := L1_33 ++ _) (perm_front (A := [_]) (List.Perm.refl _))) (List.sublist_append_right L1_33 _)) (L' := L1_27 ++ _) (perm_front (A := [_]) (List.Perm.refl _))) (List.sublist_append_right L1_27 _)), ?_⟩
  refine WH.take 10 rfl (by kernel_rfl) rfl rfl rfl (St.drop (St.perm (St.drop (St.perm (St.drop hs30 (List.Sublist.cons_cons _ (List.Sublist.cons _ (List.Sublist.refl _)))) (L' := L1_33 ++ _) (perm_front (A := [_]) (List.Perm.refl _))) (List.sublist_append_right L1_33 _)) (L' := L1_27 ++ _) (perm_front (A := [_]) (List.Perm.refl _))) (List.sublist_append_right L1_27 _)) (fun w_ hs_ => (Run.build rfl rfl rfl rfl (built_44_0_1_2_3_10_16_17 _ _ _ _ _ _ _ _ _ _ _ _ _))) ?_
  refine WH.all [11] (by kernel_rfl) rfl (WHs.cons (i := 11) rfl ?_ WHs.nil)
  refine WL.st tbk hs30 1 rfl rfl (fun _ hs35 => ?_)
  refine WL.nil ⟨(St.drop (St.perm (St.drop (St.perm (St.drop hs35 (List.Sublist.cons_cons _ (List.Sublist.cons _ (List.Sublist.refl _)))) (L' := L1_33 ++ _) (perm_front (A := [_]) (List.Perm.refl _))) (List.sublist_append_right L1_33 _)) (L' := L1_27 ++ _) (perm_front (A := [_]) (List.Perm.refl _))) (List.sublist_append_right L1_27 _)), ?_⟩
  refine WH.take 12 rfl (by kernel_rfl) rfl rfl rfl (St.drop (St.perm (St.drop (St.perm (St.drop hs35 (List.Sublist.cons_cons _ (List.Sublist.cons _ (List.Sublist.refl _)))) (L' := L1_33 ++ _) (perm_front (A := [_]) (List.Perm.refl _))) (List.sublist_append_right L1_33 _)) (L' := L1_27 ++ _) (perm_front (A := [_]) (List.Perm.refl _))) (List.sublist_append_right L1_27 _)) (fun w_ hs_ => (Run.assign rfl rfl)) ?_
  refine WH.done (by kernel_rfl) ?_
  refine hK23 _ _ ?_
  refine WC.ret ?_
  refine retV2 rfl (resV.cellA tbk hs35 1 rfl rfl rfl rfl) (resV.tmp rfl) ?_
  rw [hm]
  have hv : scrRes w_ h_ l = scrNew w_ h_ l := by unfold scrRes; rw [hm]; rfl
  obtain ⟨L38, hs37, ho39⟩ := ownScrR.fold ⟨0, 0, ⟨0, 0, ⟨_, _, _, _⟩⟩, ⟨0, 0, ⟨_, _, _, _⟩⟩, false, 0, 0, false, ⟨0, 0, false, false, false⟩, 0, 0, false, false, 0, 0, ⟨0, 0, false, false, false⟩, ⟨_, _, _, _⟩, 0, ⟨_, _, _, _⟩⟩ (St.perm (St.perm (St.perm (St.perm hs35 (L' := ([] : Hp) ++ _) (perm_front (A := [_, _]) (List.Perm.refl _))) (L' := L1_33 ++ _) (perm_front (A := ([] : Hp)) (perm_front (A := [_, _]) (List.Perm.refl _)))) (L' := L1_27 ++ _) (perm_front (A := L1_33) (perm_front (A := ([] : Hp)) (perm_front (A := [_, _]) (List.Perm.refl _))))) (L' := L0_6 ++ _) (perm_front (A := L1_27) (perm_front (A := L1_33) (perm_front (A := ([] : Hp)) (perm_front (A := [_, _]) (List.Perm.refl _)))))) ho7 ho28 ho34 (OwnN.nil _ _ _)
  have hs40 := (St.perm (St.perm hs37 (L' := [_] ++ _) (perm_front (A := L38) (perm_front (A := [_]) (List.Perm.refl _)))) (L' := [_] ++ _) (perm_front (A := [_]) (perm_front (A := L38) (List.Perm.refl _))))
  refine ⟨⟨w_, h_, ⟨r0_5.W, r0_5.H, SlD.of ho7⟩, ⟨r26.W, r26.H, SlD.of ho28⟩, false, 0, 0, false, ⟨0, 0, false, false, false⟩, 0, (h_ - (1)), false, false, 0, 0, ⟨0, 0, false, false, false⟩, SlD.of ho34, l, ⟨none, 0, 0, []⟩⟩, _, rfl, (St.keep1 (St.perm hs40 (L' := L38 ++ _) (perm_front (A := [_, _]) (List.Perm.refl _)))), ?_, ?_⟩
  · exact (by exact ho39)
  · rw [hv]; exact ScrD.ext' rfl rfl (hd0_8.trans hgr) (hd29.trans (hd0_8.trans hgr)) rfl rfl rfl rfl rfl rfl rfl rfl rfl rfl rfl rfl rfl rfl rfl
end Go.Proofs.YtlmcekfdlgkffaaGreat
