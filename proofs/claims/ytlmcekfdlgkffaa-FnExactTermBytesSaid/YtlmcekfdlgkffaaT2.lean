/- Walks of Go functions, printed by a program (wip/gen). -/
import Derived.Test.YtlmcekfdlgkffaaT1
namespace Go.Proofs.Ytlmcekfdlgkffaa
open Go Go.RowKit
set_option linter.unusedVariables false
set_option linter.unusedSimpArgs false
theorem built_35_1 (x0 : Value) (x1 : Value) (x2 : Value) (x3 : Value) (x4 : Value) (x5 : Value) (x6 : Value) (x7 : Value) (x8 : Value) (x9 : Value) (x10 : Value) (x11 : Value) (x12 : Value) (x13 : Value) (x14 : Value) (x15 : Value) (x16 : Value) (x17 : Value) (x18 : Value) (x19 : Value) (x20 : Value) (x21 : Value) (x22 : Value) (x23 : Value) (x24 : Value) (x25 : Value) (x26 : Value) (x27 : Value) (x28 : Value) (x29 : Value) (x30 : Value) : Try.prog.built 35 [(1, .agg [x0, x1, x2, x3, x4, x5, x6, x7, x8, x9, x10, x11, x12, x13, x14, x15, x16, x17, x18, x19, x20, x21, x22, x23, x24, x25, x26, x27, x28, x29, x30].toArray)] = some (List.toArray [.int .i64 0, .bool false, .slice none 0 0, .slice none 0 0, x0, x1, x2, x3, x4, x5, x6, x7, x8, x9, x10, x11, x12, x13, x14, x15, x16, x17, x18, x19, x20, x21, x22, x23, x24, x25, x26, x27, x28, x29, x30]) := by kernel_rfl
theorem built_28 : Try.prog.built 28 [] = some (List.toArray [.int .i64 0, .int .i64 0, .slice none 0 0]) := by kernel_rfl
theorem built_28_0_1 (x0 : Int) (x1 : Int) : Try.prog.built 28 [(0, .int .i64 x0), (1, .int .i64 x1)] = some (List.toArray [.int .i64 x0, .int .i64 x1, .slice none 0 0]) := by kernel_rfl
theorem c_impl_TermNew (w_ : Int) (h_ : Int) (l : Int) (w : World) :
    Calls Try.prog 13 #[i64 w_, i64 h_, i64 l] w fun e w' => ∃ r0 L0, e = .returned (.tuple #[.agg #[i64 r0.P.State, .bool r0.P.Mark, .slice r0.P.Args.A r0.P.Args.n r0.P.Args.c, .slice r0.P.Part.A r0.P.Part.n r0.P.Part.c, i64 r0.S.W, i64 r0.S.H, i64 r0.S.Main.W, i64 r0.S.Main.H, .slice r0.S.Main.Cells.A r0.S.Main.Cells.n r0.S.Main.Cells.c, i64 r0.S.Alt.W, i64 r0.S.Alt.H, .slice r0.S.Alt.Cells.A r0.S.Alt.Cells.n r0.S.Alt.Cells.c, .bool r0.S.OnAlt, i64 r0.S.X, i64 r0.S.Y, .bool r0.S.Wrap, i64 r0.S.A.Fg, i64 r0.S.A.Bg, .bool r0.S.A.Bold, .bool r0.S.A.Under, .bool r0.S.A.Turn, i64 r0.S.Top, i64 r0.S.Bot, .bool r0.S.NoWrap, .bool r0.S.Hide, i64 r0.S.SaveX, i64 r0.S.SaveY, i64 r0.S.SaveA.Fg, i64 r0.S.SaveA.Bg, .bool r0.S.SaveA.Bold, .bool r0.S.SaveA.Under, .bool r0.S.SaveA.Turn, .slice r0.S.Tabs.A r0.S.Tabs.n r0.S.Tabs.c, i64 r0.S.Limit, .slice r0.S.Back.A r0.S.Back.n r0.S.Back.c], .bool (scrMay w_ h_ l)]) ∧ St w [] (L0) w' ∧ ownTermR r0 L0 ∧ r0.dat = termRes w_ h_ l := by
 refine enter (vs := [i64 w_, i64 h_, i64 l]) 20 Try.func13 rfl Try.ntmps13 rfl rfl ?_
 have hs1 := St.init w
 refine WC.sr ?_
 refine WL.al hs1 Try.zeroValue35 rfl rfl (fun b2 _ hs3 => ?_)
 refine WL.run tbk 1 hs3 [] rfl trivial ?_
 refine WL.nil ?_
 refine WC.sr ?_
 refine WL.run tbk 3 hs3 [] rfl trivial ?_
 refine WL.call rfl rfl rfl (Run.call Try.call63 rfl rfl rfl) (c_impl_ScrNew _ _ _ _) ?_
 rintro _ whs4 ⟨r0_5, L0_6, rfl, hs4, ho7, hd0_8⟩
 replace hs4 := hs3.callF hs4
 refine ⟨_, rfl, ?_⟩
 replace hs4 := St.back [_] hs4
 refine WL.run tbk 3 hs4 [] rfl trivial ?_
 refine WL.al hs4 Try.zeroValue33 rfl rfl (fun b9 _ hs10 => ?_)
 refine WL.st tbk hs10 0 rfl rfl (fun _ hs11 => ?_)
 refine WL.run tbk 1 hs11 [] rfl trivial ?_
 refine WL.nil ?_
 refine WC.sr ?_
 refine WL.run tbk 1 hs11 [0] rfl ⟨rfl, trivial⟩ ?_
 refine WL.val rfl rfl rfl (Run.build rfl rfl rfl rfl (built_35_1 _ _ _ _ _ _ _ _ _ _ _ _ _ _ _ _ _ _ _ _ _ _ _ _ _ _ _ _ _ _ _)) ?_
 refine WL.run tbk 1 hs11 [] rfl trivial ?_
 refine WL.st tbk hs11 1 rfl rfl (fun _ hs12 => ?_)
 refine WL.run tbk 1 hs12 [] rfl trivial ?_
 refine WL.nil ?_
 refine WC.ret ?_
 refine retV2 rfl (resV.cellA tbk hs12 1 rfl rfl rfl rfl) (resV.tmp rfl) ?_
 obtain ⟨L15, L16, L17, L18, hs23, ho19, ho20, ho21, ho22⟩ := ownScrR.open_ (St.perm hs12 (L' := L0_6 ++ _) (perm_front (A := [_, _]) (perm_front (A := ([] : Hp)) (perm_front (A := ([] : Hp)) (List.Perm.refl _))))) ho7
 have hs24 := (St.perm (St.perm hs23 (L' := [_] ++ _) (perm_front (A := L15) (perm_front (A := L16) (perm_front (A := L17) (perm_front (A := L18) (perm_front (A := [_]) (List.Perm.refl _))))))) (L' := [_] ++ _) (perm_front (A := [_]) (perm_front (A := L15) (perm_front (A := L16) (perm_front (A := L17) (perm_front (A := L18) (List.Perm.refl _)))))))
 obtain ⟨L26, hs25, ho27⟩ := ownTermR.fold ⟨⟨0, false, ⟨_, _, _, _⟩, ⟨_, _, _, _⟩⟩, ⟨0, 0, ⟨0, 0, ⟨_, _, _, _⟩⟩, ⟨0, 0, ⟨_, _, _, _⟩⟩, false, 0, 0, false, ⟨0, 0, false, false, false⟩, 0, 0, false, false, 0, 0, ⟨0, 0, false, false, false⟩, ⟨_, _, _, _⟩, 0, ⟨_, _, _, _⟩⟩⟩ (St.perm (St.perm (St.perm (St.perm (St.perm (St.perm hs24 (L' := L18 ++ _) (perm_front (A := [_, _]) (perm_front (A := L15) (perm_front (A := L16) (perm_front (A := L17) (List.Perm.refl _)))))) (L' := L17 ++ _) (perm_front (A := L18) (perm_front (A := [_, _]) (perm_front (A := L15) (perm_front (A := L16) (List.Perm.refl _)))))) (L' := L16 ++ _) (perm_front (A := L17) (perm_front (A := L18) (perm_front (A := [_, _]) (perm_front (A := L15) (List.Perm.refl _)))))) (L' := L15 ++ _) (perm_front (A := L16) (perm_front (A := L17) (perm_front (A := L18) (perm_front (A := [_, _]) (List.Perm.refl _)))))) (L' := ([] : Hp) ++ _) (perm_front (A := L15) (perm_front (A := L16) (perm_front (A := L17) (perm_front (A := L18) (perm_front (A := [_, _]) (List.Perm.refl _))))))) (L' := ([] : Hp) ++ _) (perm_front (A := ([] : Hp)) (perm_front (A := L15) (perm_front (A := L16) (perm_front (A := L17) (perm_front (A := L18) (perm_front (A := [_, _]) (List.Perm.refl _)))))))) (OwnF.nil _ _) (OwnF.nil _ _) ho19 ho20 ho21 ho22
 have hs28 := (St.perm (St.perm hs25 (L' := [_] ++ _) (perm_front (A := L26) (perm_front (A := [_]) (List.Perm.refl _)))) (L' := [_] ++ _) (perm_front (A := [_]) (perm_front (A := L26) (List.Perm.refl _))))
 refine ⟨⟨⟨0, false, ⟨none, 0, 0, []⟩, ⟨none, 0, 0, []⟩⟩, ⟨r0_5.W, r0_5.H, ⟨r0_5.Main.W, r0_5.Main.H, SlD.of ho19⟩, ⟨r0_5.Alt.W, r0_5.Alt.H, SlD.of ho20⟩, r0_5.OnAlt, r0_5.X, r0_5.Y, r0_5.Wrap, ⟨r0_5.A.Fg, r0_5.A.Bg, r0_5.A.Bold, r0_5.A.Under, r0_5.A.Turn⟩, r0_5.Top, r0_5.Bot, r0_5.NoWrap, r0_5.Hide, r0_5.SaveX, r0_5.SaveY, ⟨r0_5.SaveA.Fg, r0_5.SaveA.Bg, r0_5.SaveA.Bold, r0_5.SaveA.Under, r0_5.SaveA.Turn⟩, SlD.of ho21, r0_5.Limit, SlD.ofN ho22⟩⟩, _, rfl, (St.keep1 (St.perm hs28 (L' := L26 ++ _) (perm_front (A := [_, _]) (List.Perm.refl _)))), ?_, ?_⟩
 · exact (by exact ho27)
 · exact TermD.ext' rfl hd0_8
theorem c_spec_l07Copy (g : GridR) (w : World) (f_g : okGridR 549755813888 w g) (hsm : smGrid 1099511627 g.dat) :
    Calls Try.prog 110 #[.agg #[i64 g.W, i64 g.H, .slice g.Cells.A g.Cells.n g.Cells.c]] w fun e w' => ∃ r L1, e = .returned (.agg #[i64 r.W, i64 r.H, .slice r.Cells.A r.Cells.n r.Cells.c]) ∧ St w [] L1 w' ∧ ownGridR r L1 ∧ r.dat = g.dat := by
 have nb_g_Cells := f_g.Cells_n
 have nl_g_Cells := f_g.Cells.len
 have hl9 : g.Cells.xs.length ≤ 1099511627 := hsm
 refine enter (vs := [.agg #[i64 g.W, i64 g.H, .slice g.Cells.A g.Cells.n g.Cells.c]]) 9 Try.func110 rfl Try.ntmps110 rfl rfl ?_
 have hs1 := St.init w
 refine WC.sr ?_
 refine WL.bx hs1 rfl (fun b2 _ hs3 => ?_)
 refine WL.al hs3 Try.zeroValue28 rfl rfl (fun b4 _ hs5 => ?_)
 refine WL.nil ?_
 refine WC.sr ?_
 refine WL.buildF (F := encCell) hs5 ([]) Try.runUnderlying26 Try.sizeOf100 Try.zeroValue100 rfl rfl rfl rfl rfl rfl rfl rfl rfl rfl rfl rfl (fun A9 c10 L6 whs7 hs7 ho8 => ?_)
 replace hs7 := St.back [_, _] hs7
 refine WL.run tbk 2 hs7 [1] rfl ⟨rfl, trivial⟩ ?_
 refine WL.appendG (St.perm hs7 (L' := L6 ++ _) (perm_front (A := [_, _]) (List.Perm.refl _))) ho8 (SlF.src (SlF.st0 f_g.Cells hs7) Try.underlying26) Try.underlying26 info_100 rfl rfl rfl rfl rfl rfl rfl rfl rfl rfl ?_ (fun A14 c15 L11 whs12 hs12 ho13 => ?_)
 · simp; omega
 replace hs12 := St.back [_, _] hs12
 refine WL.run tbk 1 hs12 [] rfl trivial ?_
 refine WL.st tbk hs12 1 rfl rfl (fun _ hs16 => ?_)
 refine WL.nil ?_
 refine WC.sr ?_
 refine WL.run tbk 1 hs16 [1] rfl ⟨rfl, trivial⟩ ?_
 refine WL.st tbk hs16 0 rfl rfl (fun _ hs17 => ?_)
 refine WL.nil ?_
 refine WC.ret ?_
 refine retV1 rfl (resV.cellA tbk hs17 0 rfl rfl rfl rfl) ?_
 refine ⟨⟨g.W, g.H, SlD.of ho13⟩, _, rfl, (St.keep1 (St.perm hs17 (L' := L11 ++ _) (perm_front (A := [_, _]) (List.Perm.refl _)))), ?_, ?_⟩
 · exact ho13
 · rfl
theorem c_spec_GridNew (w_ : Int) (h_ : Int) (w : World) :
    Calls Try.prog 53 #[i64 w_, i64 h_] w fun e w' => ∃ r0 L0, e = .returned (.tuple #[.agg #[i64 r0.W, i64 r0.H, .slice r0.Cells.A r0.Cells.n r0.Cells.c], .bool (isSize w_ h_)]) ∧ St w [] (L0) w' ∧ ownGridR r0 L0 ∧ r0.dat = gridRes w_ h_ := by
 refine enter (vs := [i64 w_, i64 h_]) 46 Try.func53 rfl Try.ntmps53 rfl rfl ?_
 have hs1 := St.init w
 refine WC.sr ?_
 refine WL.al hs1 Try.zeroValue28 rfl rfl (fun b2 _ hs3 => ?_)
 refine WL.run tbk 1 hs3 [] rfl trivial ?_
 refine WL.nil ?_
 refine WC.seq (fun K4 hK4 => ?_)
 refine WC.sr ?_
 refine WL.run tbk 3 hs3 [] rfl trivial ?_
 refine WL.pO tbk 2 Acts.nil hs3 [] rfl rfl rfl rfl (fun g_ => trivial) ?_
 refine WL.run tbk 1 hs3 [] rfl trivial ?_
 refine WL.pO tbk 2 Acts.nil hs3 [] rfl rfl rfl rfl (fun g_ => trivial) ?_
 refine WL.run tbk 1 hs3 [] rfl trivial ?_
 refine WL.pO tbk 2 Acts.nil hs3 [] rfl rfl rfl rfl (fun g_ => trivial) ?_
 refine WL.run tbk 1 hs3 [] rfl trivial ?_
 apply WL.gO 4 Acts.nil hs3 rfl
 ·intro g5 J6
  have qg5 := g5
  try simp only [bf, within_iff, within_not] at qg5
  refine WL.runA tbk 4 (Acts.nil.cons (j := 14) rfl g5) hs3 [] rfl ⟨?_, trivial⟩ ?_
  · (have h9 := mul_size (w := w_) (h := h_) (by omega) (by omega); constructor <;> omega)
  exact WL.eO 4 Acts.nil J6 hs3 g5 rfl rfl
 ·intro _ hs7
  refine WL.nil ?_
  refine WC.cond rfl (fun h8 => ?_) (fun h8 => ?_)
  ·have qh8 := h8
   try simp only [bf, within_iff, within_not] at qh8
   have hm : isSize w_ h_ = false := by rw [← Bool.not_eq_true, isSize_iff]; have h8 := h8; simp at h8; omega
   refine WC.sr ?_
   refine WL.val rfl rfl rfl (Run.build rfl rfl rfl rfl (built_28)) ?_
   refine WL.st tbk hs7 0 rfl rfl (fun _ hs9 => ?_)
   refine WL.run tbk 1 hs9 [] rfl trivial ?_
   refine WL.nil ?_
   refine WC.ret ?_
   refine tkR ?_
   clear hK4
   refine retV2 rfl (resV.cellA tbk hs9 0 rfl rfl rfl rfl) (resV.tmp rfl) ?_
   rw [show isSize w_ h_ = false from hm]
   have hv : gridRes w_ h_ = grid0 := by unfold gridRes; rw [hm]; rfl
   refine ⟨⟨0, 0, ⟨none, 0, 0, []⟩⟩, _, rfl, (St.keep1 (St.perm hs9 (L' := ([] : Hp) ++ _) (perm_front (A := [_]) (List.Perm.refl _)))), ?_, ?_⟩
   · exact (OwnF.nil _ _)
   · rw [hv]; rfl
  ·have qh8 := h8
   try simp only [bf, within_iff, within_not] at qh8
   have hm : isSize w_ h_ = true := by rw [isSize_iff]; have h8 := h8; simp at h8; omega
   obtain ⟨hw, hh, hm1, hm2⟩ := isSize_bnd hm
   refine WC.skip ?_
   refine hK4 _ _ ?_
   refine WC.sr ?_
   refine WL.run tbk 2 hs7 [] rfl trivial ?_
   refine WL.val rfl rfl rfl (Run.build rfl rfl rfl rfl (built_28_0_1 _ _)) ?_
   refine WL.al hs7 Try.zeroValue28 rfl rfl (fun b11 _ hs12 => ?_)
   refine WL.st tbk hs12 0 rfl rfl (fun _ hs13 => ?_)
   refine WL.nil ?_
   refine WC.seq (fun K14 hK14 => ?_)
   refine WC.rr tbk hs13 [] rfl trivial ?_
   refine WC.block ?_
   have hM20 := (St.grp1 (L1 := ([] : Hp)) [_] (St.perm (St.perm (St.perm hs13 (L' := [_] ++ _) (perm_front (A := [_]) (List.Perm.refl _))) (L' := ([] : Hp) ++ _) (perm_front (A := [_, _]) (List.Perm.refl _))) (L' := [_] ++ _) (perm_front (A := ([] : Hp)) (perm_front (A := [_]) (List.Perm.refl _)))))
   refine WC.loopV (α := Hp) [(0, _), (1, _), (4, _), (5, _), (6, _), (27, _)] ⟨rfl, rfl, rfl, rfl, rfl, rfl, trivial⟩ (fun a_ => a_) _ hM20 (fun k_ (a_ : Hp) f => ∃ (i : Nat) (zs : List CellD) (A16 : Option Addr) (c17 : Nat) (L18 : Hp), k_ = (w_ * h_).toNat - i ∧ a_ = [(b11, .cells (List.toArray [i64 w_, i64 h_, .slice A16 zs.length c17]) 28 (0, 0))] ++ L18 ∧ (i ≤ (w_ * h_).toNat) ∧ (zs = List.replicate i blankC) ∧ OwnF encCell 100 (.slice A16 (zs).length c17) (zs) L18 ∧ Sub [(7, .int .i64 i)] f) (((fun (i : Nat) (zs : List CellD) => (w_ * h_).toNat - i) (0) ([]))) ?_ ?_
   ·refine ⟨0, [], none, 0, ([] : Hp), rfl, rfl, ?_, ?_, (OwnF.nil _ _), ⟨rfl, trivial⟩⟩
    · omega
    · rfl
   ·rintro _ _ f w ⟨i, zs, A16, c17, L18, rfl, rfl, p0, p1, ho19, hG⟩ hF hs21
    refine WC.sub _ (hG.app hF) ?_
    clear hG hF
    replace hs21 := St.ungrp1 [_] hs21
    have hs22 := (St.perm (St.perm hs21 (L' := [_] ++ _) (perm_front (A := [_]) (perm_front (A := L18) (List.Perm.refl _)))) (L' := [_] ++ _) (perm_front (A := [_]) (List.Perm.refl _)))
    have hzl : zs.length = i := by rw [p1]; simp
    refine WC.seq (fun K23 hK23 => ?_)
    refine WC.sr ?_
    refine WL.run tbk 5 hs22 [] rfl ⟨?_, trivial⟩ ?_
    · constructor <;> omega
    refine WL.nil ?_
    refine WC.cond rfl (fun h24 => ?_) (fun h24 => ?_)
    ·have qh24 := h24
     try simp only [bf, within_iff, within_not] at qh24
     refine WC.skip ?_
     refine hK23 _ _ ?_
     refine WC.seq (fun K25 hK25 => ?_)
     refine WC.block ?_
     refine WC.regionH2 (fun w' => St _ _ _ w') (fun w' => St _ _ _ w') mixed (St.drew (St.drop (St.perm (St.drop hs22 (List.sublist_append_right [_] _)) (L' := L18 ++ _) (perm_front (A := [_]) (List.Perm.refl _))) (List.sublist_append_right L18 _))) (St.drew hs22) (fun whs26 hs26 => ?_)
     replace hs26 : St _ _ _ _ := hs26
     refine WH.take 0 rfl (by kernel_rfl) rfl rfl rfl (St.drop (St.perm (St.drop hs26 (List.sublist_append_right [_] _)) (L' := L18 ++ _) (perm_front (A := [_]) (List.Perm.refl _))) (List.sublist_append_right L18 _)) (fun w_ hs_ => (Run.field Try.runUnderlying28 rfl rfl rfl Try.sizeOf26 rfl)) ?_
     refine WH.all [1, 2] (by kernel_rfl) rfl (WHs.cons (i := 1) rfl ?_ (WHs.cons (i := 2) rfl ?_ WHs.nil))
     ·refine WL.run tbk 1 hs26 [0] rfl ⟨rfl, trivial⟩ ?_
      refine WL.nil ⟨(St.drop (St.perm (St.drop hs26 (List.sublist_append_right [_] _)) (L' := L18 ++ _) (perm_front (A := [_]) (List.Perm.refl _))) (List.sublist_append_right L18 _)), ?_⟩
      refine WH.all [2] (by kernel_rfl) rfl (WHs.cons (i := 2) rfl ?_ WHs.nil)
      refine WL.call rfl rfl rfl (Run.call Try.call117 rfl rfl rfl) (c_spec_l07Blank _) ?_
      rintro _ whs27 ⟨rfl, hs27⟩
      replace hs27 := hs26.call0 hs27
      refine ⟨_, rfl, ?_⟩
      refine WL.nil ⟨(St.drop (St.perm (St.drop hs27 (List.sublist_append_right [_] _)) (L' := L18 ++ _) (perm_front (A := [_]) (List.Perm.refl _))) (List.sublist_append_right L18 _)), ?_⟩
      refine WH.all [3] (by kernel_rfl) rfl (WHs.cons (i := 3) rfl ?_ WHs.nil)
      refine WL.buildF (F := encCell) hs27 ([blankC]) Try.runUnderlying26 Try.sizeOf100 Try.zeroValue100 rfl rfl rfl rfl rfl rfl rfl rfl rfl rfl rfl rfl (fun A31 c32 L28 whs29 hs29 ho30 => ?_)
      replace hs29 := St.back [_, _] hs29
      refine WL.nil ⟨(St.drop (St.perm (St.drop (St.perm (St.drop hs29 (List.sublist_append_right [_] _)) (L' := L28 ++ _) (perm_front (A := [_]) (List.Perm.refl _))) (List.sublist_append_right L28 _)) (L' := L18 ++ _) (perm_front (A := [_]) (List.Perm.refl _))) (List.sublist_append_right L18 _)), ?_⟩
      refine WH.all [4] (by kernel_rfl) rfl (WHs.cons (i := 4) rfl ?_ WHs.nil)
      refine WL.appendG (St.perm hs29 (L' := L18 ++ _) (perm_front (A := [_, _]) (perm_front (A := L28) (List.Perm.refl _)))) ho19 (SlF.src (SlF.ofOwn ho30 (fun p_ hp_ => (hs29.own p_ (List.mem_append_right [_, _] (List.mem_append_left _ hp_))).1)) Try.underlying26) Try.underlying26 info_100 rfl rfl rfl rfl rfl rfl rfl rfl rfl rfl ?_ (fun A36 c37 L33 whs34 hs34 ho35 => ?_)
      · simp; omega
      replace hs34 := St.back [_, _] hs34
      refine WL.nil ⟨(St.drop (St.perm (St.drop (St.perm (St.drop hs34 (List.sublist_append_right [_] _)) (L' := L33 ++ _) (perm_front (A := [_]) (List.Perm.refl _))) (List.sublist_append_right L33 _)) (L' := L28 ++ _) (perm_front (A := [_]) (List.Perm.refl _))) (List.sublist_append_right L28 _)), ?_⟩
      refine WH.take 5 rfl (by kernel_rfl) rfl rfl rfl (St.drop (St.perm (St.drop (St.perm (St.drop hs34 (List.sublist_append_right [_] _)) (L' := L33 ++ _) (perm_front (A := [_]) (List.Perm.refl _))) (List.sublist_append_right L33 _)) (L' := L28 ++ _) (perm_front (A := [_]) (List.Perm.refl _))) (List.sublist_append_right L28 _)) (fun w_ hs_ => (Run.field Try.runUnderlying28 rfl rfl rfl Try.sizeOf26 rfl)) ?_
      refine WH.all [6] (by kernel_rfl) rfl (WHs.cons (i := 6) rfl ?_ WHs.nil)
      refine WL.st tbk hs34 0 rfl rfl (fun _ hs38 => ?_)
      refine WL.nil ⟨(St.drop (St.perm (St.drop (St.perm (St.drop hs38 (List.sublist_append_right [_] _)) (L' := L33 ++ _) (perm_front (A := [_]) (List.Perm.refl _))) (List.sublist_append_right L33 _)) (L' := L28 ++ _) (perm_front (A := [_]) (List.Perm.refl _))) (List.sublist_append_right L28 _)), ?_⟩
      refine WH.done (by kernel_rfl) ?_
      refine hK25 _ _ ?_
      refine WC.region ?_
      refine WL.run tbk 3 hs38 [] rfl ⟨by omega, trivial⟩ ?_
      refine WL.nil ?_
      refine tkN ?_
      replace hs38 := St.drop (St.perm hs38 (L' := L28 ++ _) (perm_front (A := [_, _]) (perm_front (A := L33) (List.Perm.refl _)))) (List.sublist_append_right L28 _)
      have hF39 := (St.grp1 (L1 := L33) [_] (St.perm (St.perm (St.perm hs38 (L' := [_] ++ _) (perm_front (A := [_]) (List.Perm.refl _))) (L' := L33 ++ _) (perm_front (A := [_, _]) (List.Perm.refl _))) (L' := [_] ++ _) (perm_front (A := L33) (perm_front (A := [_]) (List.Perm.refl _)))))
      refine ⟨⟨rfl, rfl, rfl, rfl, rfl, rfl, trivial⟩, _, hF39, _, ?_, i + 1, _, A36, c37, L33, rfl, rfl, ?_, ?_, ho35, ⟨rfl, trivial⟩⟩
      · omega
      · omega
      · rw [p1]; exact List.replicate_succ'.symm
     ·refine WL.call rfl rfl rfl (Run.call Try.call117 rfl rfl rfl) (c_spec_l07Blank _) ?_
      rintro _ whs40 ⟨rfl, hs40⟩
      replace hs40 := hs26.call0 hs40
      refine ⟨_, rfl, ?_⟩
      refine WL.nil ⟨(St.drop (St.perm (St.drop hs40 (List.sublist_append_right [_] _)) (L' := L18 ++ _) (perm_front (A := [_]) (List.Perm.refl _))) (List.sublist_append_right L18 _)), ?_⟩
      refine WH.all [1, 3] (by kernel_rfl) rfl (WHs.cons (i := 1) rfl ?_ (WHs.cons (i := 3) rfl ?_ WHs.nil))
      ·refine WL.run tbk 1 hs40 [0] rfl ⟨rfl, trivial⟩ ?_
       refine WL.nil ⟨(St.drop (St.perm (St.drop hs40 (List.sublist_append_right [_] _)) (L' := L18 ++ _) (perm_front (A := [_]) (List.Perm.refl _))) (List.sublist_append_right L18 _)), ?_⟩
       refine WH.all [3] (by kernel_rfl) rfl (WHs.cons (i := 3) rfl ?_ WHs.nil)
       refine WL.buildF (F := encCell) hs40 ([blankC]) Try.runUnderlying26 Try.sizeOf100 Try.zeroValue100 rfl rfl rfl rfl rfl rfl rfl rfl rfl rfl rfl rfl (fun A44 c45 L41 whs42 hs42 ho43 => ?_)
       replace hs42 := St.back [_, _] hs42
       refine WL.nil ⟨(St.drop (St.perm (St.drop (St.perm (St.drop hs42 (List.sublist_append_right [_] _)) (L' := L41 ++ _) (perm_front (A := [_]) (List.Perm.refl _))) (List.sublist_append_right L41 _)) (L' := L18 ++ _) (perm_front (A := [_]) (List.Perm.refl _))) (List.sublist_append_right L18 _)), ?_⟩
       refine WH.all [4] (by kernel_rfl) rfl (WHs.cons (i := 4) rfl ?_ WHs.nil)
       refine WL.appendG (St.perm hs42 (L' := L18 ++ _) (perm_front (A := [_, _]) (perm_front (A := L41) (List.Perm.refl _)))) ho19 (SlF.src (SlF.ofOwn ho43 (fun p_ hp_ => (hs42.own p_ (List.mem_append_right [_, _] (List.mem_append_left _ hp_))).1)) Try.underlying26) Try.underlying26 info_100 rfl rfl rfl rfl rfl rfl rfl rfl rfl rfl ?_ (fun A49 c50 L46 whs47 hs47 ho48 => ?_)
       · simp; omega
       replace hs47 := St.back [_, _] hs47
       refine WL.nil ⟨(St.drop (St.perm (St.drop (St.perm (St.drop hs47 (List.sublist_append_right [_] _)) (L' := L46 ++ _) (perm_front (A := [_]) (List.Perm.refl _))) (List.sublist_append_right L46 _)) (L' := L41 ++ _) (perm_front (A := [_]) (List.Perm.refl _))) (List.sublist_append_right L41 _)), ?_⟩
       refine WH.take 5 rfl (by kernel_rfl) rfl rfl rfl (St.drop (St.perm (St.drop (St.perm (St.drop hs47 (List.sublist_append_right [_] _)) (L' := L46 ++ _) (perm_front (A := [_]) (List.Perm.refl _))) (List.sublist_append_right L46 _)) (L' := L41 ++ _) (perm_front (A := [_]) (List.Perm.refl _))) (List.sublist_append_right L41 _)) (fun w_ hs_ => (Run.field Try.runUnderlying28 rfl rfl rfl Try.sizeOf26 rfl)) ?_
       refine WH.all [6] (by kernel_rfl) rfl (WHs.cons (i := 6) rfl ?_ WHs.nil)
       refine WL.st tbk hs47 0 rfl rfl (fun _ hs51 => ?_)
       refine WL.nil ⟨(St.drop (St.perm (St.drop (St.perm (St.drop hs51 (List.sublist_append_right [_] _)) (L' := L46 ++ _) (perm_front (A := [_]) (List.Perm.refl _))) (List.sublist_append_right L46 _)) (L' := L41 ++ _) (perm_front (A := [_]) (List.Perm.refl _))) (List.sublist_append_right L41 _)), ?_⟩
       refine WH.done (by kernel_rfl) ?_
       refine hK25 _ _ ?_
       refine WC.region ?_
       refine WL.run tbk 3 hs51 [] rfl ⟨by omega, trivial⟩ ?_
       refine WL.nil ?_
       refine tkN ?_
       replace hs51 := St.drop (St.perm hs51 (L' := L41 ++ _) (perm_front (A := [_, _]) (perm_front (A := L46) (List.Perm.refl _)))) (List.sublist_append_right L41 _)
       have hF52 := (St.grp1 (L1 := L46) [_] (St.perm (St.perm (St.perm hs51 (L' := [_] ++ _) (perm_front (A := [_]) (List.Perm.refl _))) (L' := L46 ++ _) (perm_front (A := [_, _]) (List.Perm.refl _))) (L' := [_] ++ _) (perm_front (A := L46) (perm_front (A := [_]) (List.Perm.refl _)))))
       refine ⟨⟨rfl, rfl, rfl, rfl, rfl, rfl, trivial⟩, _, hF52, _, ?_, i + 1, _, A49, c50, L46, rfl, rfl, ?_, ?_, ho48, ⟨rfl, trivial⟩⟩
       · omega
       · omega
       · rw [p1]; exact List.replicate_succ'.symm
      ·refine WL.buildF (F := encCell) hs40 ([blankC]) Try.runUnderlying26 Try.sizeOf100 Try.zeroValue100 rfl rfl rfl rfl rfl rfl rfl rfl rfl rfl rfl rfl (fun A56 c57 L53 whs54 hs54 ho55 => ?_)
       replace hs54 := St.back [_, _] hs54
       refine WL.nil ⟨(St.drop (St.perm (St.drop (St.perm (St.drop hs54 (List.sublist_append_right [_] _)) (L' := L53 ++ _) (perm_front (A := [_]) (List.Perm.refl _))) (List.sublist_append_right L53 _)) (L' := L18 ++ _) (perm_front (A := [_]) (List.Perm.refl _))) (List.sublist_append_right L18 _)), ?_⟩
       refine WH.all [1] (by kernel_rfl) rfl (WHs.cons (i := 1) rfl ?_ WHs.nil)
       refine WL.run tbk 1 hs54 [0] rfl ⟨rfl, trivial⟩ ?_
       refine WL.nil ⟨(St.drop (St.perm (St.drop (St.perm (St.drop hs54 (List.sublist_append_right [_] _)) (L' := L53 ++ _) (perm_front (A := [_]) (List.Perm.refl _))) (List.sublist_append_right L53 _)) (L' := L18 ++ _) (perm_front (A := [_]) (List.Perm.refl _))) (List.sublist_append_right L18 _)), ?_⟩
       refine WH.all [4] (by kernel_rfl) rfl (WHs.cons (i := 4) rfl ?_ WHs.nil)
       refine WL.appendG (St.perm hs54 (L' := L18 ++ _) (perm_front (A := [_, _]) (perm_front (A := L53) (List.Perm.refl _)))) ho19 (SlF.src (SlF.ofOwn ho55 (fun p_ hp_ => (hs54.own p_ (List.mem_append_right [_, _] (List.mem_append_left _ hp_))).1)) Try.underlying26) Try.underlying26 info_100 rfl rfl rfl rfl rfl rfl rfl rfl rfl rfl ?_ (fun A61 c62 L58 whs59 hs59 ho60 => ?_)
       · simp; omega
       replace hs59 := St.back [_, _] hs59
       refine WL.nil ⟨(St.drop (St.perm (St.drop (St.perm (St.drop hs59 (List.sublist_append_right [_] _)) (L' := L58 ++ _) (perm_front (A := [_]) (List.Perm.refl _))) (List.sublist_append_right L58 _)) (L' := L53 ++ _) (perm_front (A := [_]) (List.Perm.refl _))) (List.sublist_append_right L53 _)), ?_⟩
       refine WH.take 5 rfl (by kernel_rfl) rfl rfl rfl (St.drop (St.perm (St.drop (St.perm (St.drop hs59 (List.sublist_append_right [_] _)) (L' := L58 ++ _) (perm_front (A := [_]) (List.Perm.refl _))) (List.sublist_append_right L58 _)) (L' := L53 ++ _) (perm_front (A := [_]) (List.Perm.refl _))) (List.sublist_append_right L53 _)) (fun w_ hs_ => (Run.field Try.runUnderlying28 rfl rfl rfl Try.sizeOf26 rfl)) ?_
       refine WH.all [6] (by kernel_rfl) rfl (WHs.cons (i := 6) rfl ?_ WHs.nil)
       refine WL.st tbk hs59 0 rfl rfl (fun _ hs63 => ?_)
       refine WL.nil ⟨(St.drop (St.perm (St.drop (St.perm (St.drop hs63 (List.sublist_append_right [_] _)) (L' := L58 ++ _) (perm_front (A := [_]) (List.Perm.refl _))) (List.sublist_append_right L58 _)) (L' := L53 ++ _) (perm_front (A := [_]) (List.Perm.refl _))) (List.sublist_append_right L53 _)), ?_⟩
       refine WH.done (by kernel_rfl) ?_
       refine hK25 _ _ ?_
       refine WC.region ?_
       refine WL.run tbk 3 hs63 [] rfl ⟨by omega, trivial⟩ ?_
       refine WL.nil ?_
       refine tkN ?_
       replace hs63 := St.drop (St.perm hs63 (L' := L53 ++ _) (perm_front (A := [_, _]) (perm_front (A := L58) (List.Perm.refl _)))) (List.sublist_append_right L53 _)
       have hF64 := (St.grp1 (L1 := L58) [_] (St.perm (St.perm (St.perm hs63 (L' := [_] ++ _) (perm_front (A := [_]) (List.Perm.refl _))) (L' := L58 ++ _) (perm_front (A := [_, _]) (List.Perm.refl _))) (L' := [_] ++ _) (perm_front (A := L58) (perm_front (A := [_]) (List.Perm.refl _)))))
       refine ⟨⟨rfl, rfl, rfl, rfl, rfl, rfl, trivial⟩, _, hF64, _, ?_, i + 1, _, A61, c62, L58, rfl, rfl, ?_, ?_, ho60, ⟨rfl, trivial⟩⟩
       · omega
       · omega
       · rw [p1]; exact List.replicate_succ'.symm
    ·have qh24 := h24
     try simp only [bf, within_iff, within_not] at qh24
     refine WC.exit ?_
     refine hK14 _ _ ?_
     refine WC.sr ?_
     refine WL.run tbk 1 hs22 [0] rfl ⟨rfl, trivial⟩ ?_
     refine WL.st tbk hs22 1 rfl rfl (fun _ hs65 => ?_)
     refine WL.run tbk 1 hs65 [] rfl trivial ?_
     refine WL.nil ?_
     refine WC.ret ?_
     refine retV2 rfl (resV.cellA tbk hs65 1 rfl rfl rfl rfl) (resV.tmp rfl) ?_
     rw [hm]
     have hv : gridRes w_ h_ = gridNew w_ h_ := by unfold gridRes; rw [hm]; rfl
     refine ⟨⟨w_, h_, SlD.of ho19⟩, _, rfl, (St.keep1 (St.perm hs65 (L' := L18 ++ _) (perm_front (A := [_, _]) (List.Perm.refl _)))), ?_, ?_⟩
     · exact ho19
     · rw [hv]; show GridD.mk w_ h_ zs = _; rw [p1, show i = (w_ * h_).toNat by omega]; rfl
theorem c_spec_l09Tabs (w_ : Int) (w : World) (hw : 1 ≤ w_ ∧ w_ ≤ 120) :
    Calls Try.prog 85 #[i64 w_] w fun e w' => ∃ A c L1, e = .returned (.slice A (tabsL w_).length c) ∧ St w [] L1 w' ∧ OwnF encI 3 (.slice A (tabsL w_).length c) (tabsL w_) L1 := by
 refine enter (vs := [i64 w_]) 16 Try.func85 rfl Try.ntmps85 rfl rfl ?_
 have hs1 := St.init w
 refine WC.rr tbk hs1 [] rfl trivial ?_
 refine WC.sr ?_
 refine WL.buildF (F := encI) hs1 ([]) Try.runUnderlying22 Try.sizeOf3 Try.zeroValue3 rfl rfl rfl rfl rfl rfl rfl rfl rfl rfl rfl rfl (fun A5 c6 L2 whs3 hs3 ho4 => ?_)
 refine WL.run tbk 1 hs3 [] rfl trivial ?_
 refine WL.nil ?_
 refine WC.seq (fun K7 hK7 => ?_)
 refine WC.rr tbk hs3 [] rfl trivial ?_
 refine WC.block ?_
 refine WC.loopO [(0, _), (2, _)] ⟨rfl, rfl, trivial⟩ hs3 (fun k_ f L_ => ∃ (i : Nat) (A8 : Option Addr) (c9 : Nat), k_ = 121 - i ∧ (i = 0 ∨ 8 * (i : Int) < w_) ∧ (i ≤ 120) ∧ OwnF encI 3 (.slice A8 (((List.range i).map (fun i : Nat => 8 * ((i : Int) + 1))).length) c9) (((List.range i).map (fun i : Nat => 8 * ((i : Int) + 1)))) L_ ∧ Sub [(3, .slice A8 (((List.range i).map (fun i : Nat => 8 * ((i : Int) + 1))).length) c9), (4, .int .i64 (8 * ((i : Int) + 1)))] f) (((fun (i : Nat) => 121 - i) (0))) ?_ ?_
 ·refine ⟨0, _, _, rfl, ?_, ?_, ho4, ⟨?_, ?_, trivial⟩⟩
  · exact .inl rfl
  · omega
  · rfl
  · rfl
 ·clear hs3
  rintro _ f w L10 ⟨i, A8, c9, rfl, p0, p1, ho11, hG⟩ hF hs12
  refine WC.sub _ (hG.app hF) ?_
  clear hG hF
  have hlt : (((List.range i).map (fun i : Nat => 8 * ((i : Int) + 1)))).length = i := by simp
  refine WC.seq (fun K13 hK13 => ?_)
  refine WC.rr tbk hs12 [] rfl trivial ?_
  refine WC.cond rfl (fun h14 => ?_) (fun h14 => ?_)
  ·have qh14 := h14
   try simp only [bf, within_iff, within_not] at qh14
   refine WC.skip ?_
   refine hK13 _ _ ?_
   refine WC.seq (fun K15 hK15 => ?_)
   refine WC.block ?_
   refine WC.region ?_
   refine WL.run tbk 2 hs12 [] rfl trivial ?_
   refine WL.buildSlice hs12 Try.runUnderlying22 Try.sizeOf3 Try.zeroValue3 rfl rfl rfl rfl rfl rfl rfl rfl rfl rfl (fun b16 whs17 hs17 => ?_)
   refine WL.appendG (St.perm hs17 (L' := L10 ++ _) (perm_front (A := [_]) (List.Perm.refl _))) ho11 (srcI1 Try.underlying22 (hs17.own _ (nthL_mem (i := 0) rfl)).1) Try.underlying22 info_3 rfl rfl rfl rfl rfl rfl rfl rfl rfl rfl ?_ (fun A21 c22 L18 whs19 hs19 ho20 => ?_)
   · simp; omega
   replace hs19 := St.back [_] hs19
   refine WL.run tbk 1 hs19 [] rfl trivial ?_
   refine WL.nil ?_
   refine hK15 _ _ ?_
   refine WC.region ?_
   refine WL.run tbk 3 hs19 [] rfl ⟨by omega, trivial⟩ ?_
   refine WL.nil ?_
   refine tkN ?_
   replace hs19 := St.drop hs19 (List.sublist_append_right [_] _)
   refine ⟨⟨rfl, rfl, trivial⟩, _, hs19, _, ?_, i + 1, _, _, rfl, ?_, ?_, (tabsL_take (w := w_) (by omega) ▸ ho20), ⟨?_, ?_, trivial⟩⟩
   · omega
   · right; omega
   · omega
   · (rw [tabsL_take (w := w_) (i := i) (by omega)]; rfl)
   · (refine congrArg some (congrArg (Value.int _) ?_); omega)
  ·have qh14 := h14
   try simp only [bf, within_iff, within_not] at qh14
   refine WC.exit ?_
   refine hK7 _ _ ?_
   refine WC.rr tbk hs12 [] rfl trivial ?_
   refine WC.ret ?_
   refine retV1 rfl (resV.tmp rfl) ?_
   have hx_ := OwnF.eqOf (xs := tabsL w_) ho11 (by exact tabsL_end (by omega) p0)
   rw [← hx_]
   first | exact ⟨_, _, _, rfl, (St.keep1 hs12), ho11⟩ | exact ⟨A8, c9, _, by rw [OwnF.len_ ho11], (St.keep1 hs12), by rw [OwnF.len_ ho11]; exact ho11⟩
theorem c_spec_ScrNew (w_ : Int) (h_ : Int) (l : Int) (w : World) :
    Calls Try.prog 62 #[i64 w_, i64 h_, i64 l] w fun e w' => ∃ r0 L0, e = .returned (.tuple #[.agg #[i64 r0.W, i64 r0.H, i64 r0.Main.W, i64 r0.Main.H, .slice r0.Main.Cells.A r0.Main.Cells.n r0.Main.Cells.c, i64 r0.Alt.W, i64 r0.Alt.H, .slice r0.Alt.Cells.A r0.Alt.Cells.n r0.Alt.Cells.c, .bool r0.OnAlt, i64 r0.X, i64 r0.Y, .bool r0.Wrap, i64 r0.A.Fg, i64 r0.A.Bg, .bool r0.A.Bold, .bool r0.A.Under, .bool r0.A.Turn, i64 r0.Top, i64 r0.Bot, .bool r0.NoWrap, .bool r0.Hide, i64 r0.SaveX, i64 r0.SaveY, i64 r0.SaveA.Fg, i64 r0.SaveA.Bg, .bool r0.SaveA.Bold, .bool r0.SaveA.Under, .bool r0.SaveA.Turn, .slice r0.Tabs.A r0.Tabs.n r0.Tabs.c, i64 r0.Limit, .slice r0.Back.A r0.Back.n r0.Back.c], .bool (scrMay w_ h_ l)]) ∧ St w [] (L0) w' ∧ ownScrR r0 L0 ∧ r0.dat = scrRes w_ h_ l := by
 refine enter (vs := [i64 w_, i64 h_, i64 l]) 38 Try.func62 rfl Try.ntmps62 rfl rfl ?_
 have hs1 := St.init w
 refine WC.sr ?_
 refine WL.al hs1 Try.zeroValue33 rfl rfl (fun b2 _ hs3 => ?_)
 refine WL.run tbk 1 hs3 [] rfl trivial ?_
 refine WL.nil ?_
 refine WC.sr ?_
 refine WL.run tbk 2 hs3 [] rfl trivial ?_
 refine WL.call rfl rfl rfl (Run.call Try.call53 rfl rfl rfl) (c_spec_GridNew _ _ _) ?_
 rintro _ whs4 ⟨r0_5, L0_6, rfl, hs4, ho7, hd0_8⟩
 replace hs4 := hs3.callF hs4
 refine ⟨_, rfl, ?_⟩
 replace hs4 := St.back [_] hs4
 refine WL.run tbk 3 hs4 [] rfl trivial ?_
 refine WL.al hs4 Try.zeroValue28 rfl rfl (fun b9 _ hs10 => ?_)
 refine WL.st tbk hs10 0 rfl rfl (fun _ hs11 => ?_)
 refine WL.run tbk 1 hs11 [] rfl trivial ?_
 refine WL.nil ?_
 refine WC.seq (fun K12 hK12 => ?_)
 refine WC.sr ?_
 refine WL.run tbk 3 hs11 [] rfl trivial ?_
 refine WL.pO tbk 2 Acts.nil hs11 [] rfl rfl rfl rfl (fun g_ => trivial) ?_
 refine WL.run tbk 1 hs11 [] rfl trivial ?_
 refine WL.pO tbk 2 Acts.nil hs11 [] rfl rfl rfl rfl (fun g_ => trivial) ?_
 refine WL.nil ?_
 refine WC.cond rfl (fun h13 => ?_) (fun h13 => ?_)
 ·have qh13 := h13
  try simp only [bf, within_iff, within_not] at qh13
  have hm : scrMay w_ h_ l = false := by rw [← Bool.not_eq_true]; intro h9; unfold scrMay at h9; rw [Bool.and_eq_true, within_iff] at h9; have h8 := h13; simp [h9.1] at h8; omega
  refine WC.sr ?_
  refine WL.val rfl rfl rfl (Run.build rfl rfl rfl rfl (built_33)) ?_
  refine WL.st tbk hs11 1 rfl rfl (fun _ hs14 => ?_)
  refine WL.run tbk 1 hs14 [] rfl trivial ?_
  refine WL.nil ?_
  refine WC.ret ?_
  refine tkR ?_
  clear hK12
  refine retV2 rfl (resV.cellA tbk hs14 1 rfl rfl rfl rfl) (resV.tmp rfl) ?_
  rw [hm]
  have hv : scrRes w_ h_ l = scr0 := by unfold scrRes; rw [hm]; rfl
  obtain ⟨L20, hs19, ho21⟩ := ownScrR.fold ⟨0, 0, ⟨0, 0, ⟨_, _, _, _⟩⟩, ⟨0, 0, ⟨_, _, _, _⟩⟩, false, 0, 0, false, ⟨0, 0, false, false, false⟩, 0, 0, false, false, 0, 0, ⟨0, 0, false, false, false⟩, ⟨_, _, _, _⟩, 0, ⟨_, _, _, _⟩⟩ (St.perm (St.perm (St.perm (St.perm hs14 (L' := ([] : Hp) ++ _) (perm_front (A := [_, _]) (List.Perm.refl _))) (L' := ([] : Hp) ++ _) (perm_front (A := ([] : Hp)) (perm_front (A := [_, _]) (List.Perm.refl _)))) (L' := ([] : Hp) ++ _) (perm_front (A := ([] : Hp)) (perm_front (A := ([] : Hp)) (perm_front (A := [_, _]) (List.Perm.refl _))))) (L' := ([] : Hp) ++ _) (perm_front (A := ([] : Hp)) (perm_front (A := ([] : Hp)) (perm_front (A := ([] : Hp)) (perm_front (A := [_, _]) (List.Perm.refl _)))))) (OwnF.nil _ _) (OwnF.nil _ _) (OwnF.nil _ _) (OwnN.nil _ _ _)
  have hs22 := (St.perm (St.perm hs19 (L' := [_] ++ _) (perm_front (A := L20) (perm_front (A := [_]) (List.Perm.refl _)))) (L' := [_] ++ _) (perm_front (A := [_]) (perm_front (A := L20) (List.Perm.refl _))))
  refine ⟨⟨0, 0, ⟨0, 0, ⟨none, 0, 0, []⟩⟩, ⟨0, 0, ⟨none, 0, 0, []⟩⟩, false, 0, 0, false, ⟨0, 0, false, false, false⟩, 0, 0, false, false, 0, 0, ⟨0, 0, false, false, false⟩, ⟨none, 0, 0, []⟩, 0, ⟨none, 0, 0, []⟩⟩, _, rfl, (St.keep1 (St.perm hs22 (L' := L20 ++ _) (perm_front (A := [_, _]) (List.Perm.refl _)))), ?_, ?_⟩
  · exact (by exact ho21)
  · rw [hv]; rfl
 ·have qh13 := h13
  try simp only [bf, within_iff, within_not] at qh13
  have hm : scrMay w_ h_ l = true := by unfold scrMay; rw [Bool.and_eq_true, within_iff]; have h8 := h13; simp at h8; exact ⟨h8.1.1, by omega⟩
  have hs : isSize w_ h_ = true := by unfold scrMay at hm; rw [Bool.and_eq_true] at hm; exact hm.1
  obtain ⟨hw, hh, hm1, hm2⟩ := isSize_bnd hs
  have hgr : gridRes w_ h_ = gridNew w_ h_ := by unfold gridRes; rw [hs]; rfl
  have hgB : smGrid 1099511627 (gridRes w_ h_) := by rw [hgr]; show (List.replicate _ _).length ≤ _; rw [List.length_replicate]; omega
  have hgB2 : smGrid 549755813888 (gridRes w_ h_) := Nat.le_trans hgB (by decide)
  refine WC.skip ?_
  refine hK12 _ _ ?_
  refine WC.seq (fun K23 hK23 => ?_)
  refine WC.regionH2 (fun w' => St _ _ _ w') (fun w' => St _ _ _ w') mixed (St.drew (St.drop hs11 (List.Sublist.cons_cons _ (List.Sublist.cons _ (List.Sublist.refl _))))) (St.drew hs11) (fun whs24 hs24 => ?_)
  replace hs24 : St _ _ _ _ := hs24
  refine WH.take 0 rfl (by kernel_rfl) rfl rfl rfl (St.drop hs24 (List.Sublist.cons_cons _ (List.Sublist.cons _ (List.Sublist.refl _)))) (fun w_ hs_ => (Run.move rfl rfl)) ?_
  refine WH.take 1 rfl (by kernel_rfl) rfl rfl rfl (St.drop hs24 (List.Sublist.cons_cons _ (List.Sublist.cons _ (List.Sublist.refl _)))) (fun w_ hs_ => (Run.move rfl rfl)) ?_
  refine WH.take 2 rfl (by kernel_rfl) rfl rfl rfl (St.drop hs24 (List.Sublist.cons_cons _ (List.Sublist.cons _ (List.Sublist.refl _)))) (fun w_ hs_ => (Run.loadLA (hs_ : St _ _ _ _) 0 Try.isAgg28 Try.sizeOf28 rfl rfl rfl rfl rfl)) ?_
  refine WH.take 3 rfl (by kernel_rfl) rfl rfl rfl (St.drop hs24 (List.Sublist.cons_cons _ (List.Sublist.cons _ (List.Sublist.refl _)))) (fun w_ hs_ => (Run.loadLA (hs_ : St _ _ _ _) 0 Try.isAgg28 Try.sizeOf28 rfl rfl rfl rfl rfl)) ?_
  refine WH.take 5 rfl (by kernel_rfl) rfl rfl rfl (St.drop hs24 (List.Sublist.cons_cons _ (List.Sublist.cons _ (List.Sublist.refl _)))) (fun w_ hs_ => (Run.move rfl rfl)) ?_
  refine WH.take 6 rfl (by kernel_rfl) rfl rfl rfl (St.drop hs24 (List.Sublist.cons_cons _ (List.Sublist.cons _ (List.Sublist.refl _)))) (fun w_ hs_ => (Run.sub rfl rfl rfl ?_)) ?_
  · constructor <;> omega
  refine WH.take 7 rfl (by kernel_rfl) rfl rfl rfl (St.drop hs24 (List.Sublist.cons_cons _ (List.Sublist.cons _ (List.Sublist.refl _)))) (fun w_ hs_ => (Run.move rfl rfl)) ?_
  refine WH.take 9 rfl (by kernel_rfl) rfl rfl rfl (St.drop hs24 (List.Sublist.cons_cons _ (List.Sublist.cons _ (List.Sublist.refl _)))) (fun w_ hs_ => (Run.move rfl rfl)) ?_
  refine WH.all [4] (by kernel_rfl) rfl (WHs.cons (i := 4) rfl ?_ WHs.nil)
  refine WL.call rfl rfl rfl (Run.call Try.call110 rfl rfl rfl) (c_spec_l07Copy r0_5 _ (ownGridR.ok (B := 549755813888) ho7 (fun p_ hp_ => (hs24.own p_ (List.mem_append_right [_, _] (List.mem_append_left _ hp_))).1) (by rw [hd0_8]; assumption)) ?_) ?_
  · first | (first | assumption | rfl | omega) | (first | omega | assumption | (rw [hd0_8]; assumption))
  rintro _ whs25 ⟨r26, L1_27, rfl, hs25, ho28, hd29⟩
  replace hs25 := hs24.callF hs25
  refine ⟨_, rfl, ?_⟩
  replace hs25 := St.back [_, _] hs25
  refine WL.nil ⟨(St.drop (St.perm (St.drop hs25 (List.Sublist.cons_cons _ (List.Sublist.cons _ (List.Sublist.refl _)))) (L' := L1_27 ++ _) (perm_front (A := [_]) (List.Perm.refl _))) (List.sublist_append_right L1_27 _)), ?_⟩
  refine WH.all [8] (by kernel_rfl) rfl (WHs.cons (i := 8) rfl ?_ WHs.nil)
  refine WL.call rfl rfl rfl (Run.call Try.call85 rfl rfl rfl) (c_spec_l09Tabs _ _ ?_) ?_
  · first | (first | assumption | rfl | omega) | (first | omega | assumption | (rw [hd0_8]; assumption))
  rintro _ whs30 ⟨A31, c32, L1_33, rfl, hs30, ho34⟩
  replace hs30 := hs25.callF hs30
  refine ⟨_, rfl, ?_⟩
  replace hs30 := St.back [_, _] hs30
  refine WL.nil ⟨(St.drop (St.perm (St.drop (St.perm (St.drop hs30 (List.Sublist.cons_cons _ (List.Sublist.cons _ (List.Sublist.refl _)))) (L' := L1_33 ++ _) (perm_front (A := [_]) (List.Perm.refl _))) (List.sublist_append_right L1_33 _)) (L' := L1_27 ++ _) (perm_front (A := [_]) (List.Perm.refl _))) (List.sublist_append_right L1_27 _)), ?_⟩
  refine WH.take 10 rfl (by kernel_rfl) rfl rfl rfl (St.drop (St.perm (St.drop (St.perm (St.drop hs30 (List.Sublist.cons_cons _ (List.Sublist.cons _ (List.Sublist.refl _)))) (L' := L1_33 ++ _) (perm_front (A := [_]) (List.Perm.refl _))) (List.sublist_append_right L1_33 _)) (L' := L1_27 ++ _) (perm_front (A := [_]) (List.Perm.refl _))) (List.sublist_append_right L1_27 _)) (fun w_ hs_ => (Run.build rfl rfl rfl rfl (built_33_0_1_2_3_10_16_17 _ _ _ _ _ _ _ _ _ _ _ _ _))) ?_
  refine WH.all [11] (by kernel_rfl) rfl (WHs.cons (i := 11) rfl ?_ WHs.nil)
  refine WL.st tbk hs30 1 rfl rfl (fun _ hs35 => ?_)
  refine WL.nil ⟨(St.drop (St.perm (St.drop (St.perm (St.drop hs35 (List.Sublist.cons_cons _ (List.Sublist.cons _ (List.Sublist.refl _)))) (L' := L1_33 ++ _) (perm_front (A := [_]) (List.Perm.refl _))) (List.sublist_append_right L1_33 _)) (L' := L1_27 ++ _) (perm_front (A := [_]) (List.Perm.refl _))) (List.sublist_append_right L1_27 _)), ?_⟩
  refine WH.take 12 rfl (by kernel_rfl) rfl rfl rfl (St.drop (St.perm (St.drop (St.perm (St.drop hs35 (List.Sublist.cons_cons _ (List.Sublist.cons _ (List.Sublist.refl _)))) (L' := L1_33 ++ _) (perm_front (A := [_]) (List.Perm.refl _))) (List.sublist_append_right L1_33 _)) (L' := L1_27 ++ _) (perm_front (A := [_]) (List.Perm.refl _))) (List.sublist_append_right L1_27 _)) (fun w_ hs_ => (Run.assign rfl rfl)) ?_
  refine WH.done (by kernel_rfl) ?_
  refine hK23 _ _ ?_
  refine WC.ret ?_
  refine retV2 rfl (resV.cellA tbk hs35 1 rfl rfl rfl rfl) (resV.tmp rfl) ?_
  rw [hm]
  have hv : scrRes w_ h_ l = scrNew w_ h_ l := by unfold scrRes; rw [hm]; rfl
  obtain ⟨L38, hs37, ho39⟩ := ownScrR.fold ⟨0, 0, ⟨0, 0, ⟨_, _, _, _⟩⟩, ⟨0, 0, ⟨_, _, _, _⟩⟩, false, 0, 0, false, ⟨0, 0, false, false, false⟩, 0, 0, false, false, 0, 0, ⟨0, 0, false, false, false⟩, ⟨_, _, _, _⟩, 0, ⟨_, _, _, _⟩⟩ (St.perm (St.perm (St.perm (St.perm hs35 (L' := ([] : Hp) ++ _) (perm_front (A := [_, _]) (List.Perm.refl _))) (L' := L1_33 ++ _) (perm_front (A := ([] : Hp)) (perm_front (A := [_, _]) (List.Perm.refl _)))) (L' := L1_27 ++ _) (perm_front (A := L1_33) (perm_front (A := ([] : Hp)) (perm_front (A := [_, _]) (List.Perm.refl _))))) (L' := L0_6 ++ _) (perm_front (A := L1_27) (perm_front (A := L1_33) (perm_front (A := ([] : Hp)) (perm_front (A := [_, _]) (List.Perm.refl _)))))) ho7 ho28 ho34 (OwnN.nil _ _ _)
  have hs40 := (St.perm (St.perm hs37 (L' := [_] ++ _) (perm_front (A := L38) (perm_front (A := [_]) (List.Perm.refl _)))) (L' := [_] ++ _) (perm_front (A := [_]) (perm_front (A := L38) (List.Perm.refl _))))
  refine ⟨⟨w_, h_, ⟨r0_5.W, r0_5.H, SlD.of ho7⟩, ⟨r26.W, r26.H, SlD.of ho28⟩, false, 0, 0, false, ⟨0, 0, false, false, false⟩, 0, (h_ - (1)), false, false, 0, 0, ⟨0, 0, false, false, false⟩, SlD.of ho34, l, ⟨none, 0, 0, []⟩⟩, _, rfl, (St.keep1 (St.perm hs40 (L' := L38 ++ _) (perm_front (A := [_, _]) (List.Perm.refl _)))), ?_, ?_⟩
  · exact (by exact ho39)
  · rw [hv]; exact ScrD.ext' rfl rfl (hd0_8.trans hgr) (hd29.trans (hd0_8.trans hgr)) rfl rfl rfl rfl rfl rfl rfl rfl rfl rfl rfl rfl rfl rfl rfl
theorem c_spec_TermNew (w_ : Int) (h_ : Int) (l : Int) (w : World) :
    Calls Try.prog 12 #[i64 w_, i64 h_, i64 l] w fun e w' => ∃ r0 L0, e = .returned (.tuple #[.agg #[i64 r0.P.State, .bool r0.P.Mark, .slice r0.P.Args.A r0.P.Args.n r0.P.Args.c, .slice r0.P.Part.A r0.P.Part.n r0.P.Part.c, i64 r0.S.W, i64 r0.S.H, i64 r0.S.Main.W, i64 r0.S.Main.H, .slice r0.S.Main.Cells.A r0.S.Main.Cells.n r0.S.Main.Cells.c, i64 r0.S.Alt.W, i64 r0.S.Alt.H, .slice r0.S.Alt.Cells.A r0.S.Alt.Cells.n r0.S.Alt.Cells.c, .bool r0.S.OnAlt, i64 r0.S.X, i64 r0.S.Y, .bool r0.S.Wrap, i64 r0.S.A.Fg, i64 r0.S.A.Bg, .bool r0.S.A.Bold, .bool r0.S.A.Under, .bool r0.S.A.Turn, i64 r0.S.Top, i64 r0.S.Bot, .bool r0.S.NoWrap, .bool r0.S.Hide, i64 r0.S.SaveX, i64 r0.S.SaveY, i64 r0.S.SaveA.Fg, i64 r0.S.SaveA.Bg, .bool r0.S.SaveA.Bold, .bool r0.S.SaveA.Under, .bool r0.S.SaveA.Turn, .slice r0.S.Tabs.A r0.S.Tabs.n r0.S.Tabs.c, i64 r0.S.Limit, .slice r0.S.Back.A r0.S.Back.n r0.S.Back.c], .bool (scrMay w_ h_ l)]) ∧ St w [] (L0) w' ∧ ownTermR r0 L0 ∧ r0.dat = termRes w_ h_ l := by
 refine enter (vs := [i64 w_, i64 h_, i64 l]) 20 Try.func12 rfl Try.ntmps12 rfl rfl ?_
 have hs1 := St.init w
 refine WC.sr ?_
 refine WL.al hs1 Try.zeroValue35 rfl rfl (fun b2 _ hs3 => ?_)
 refine WL.run tbk 1 hs3 [] rfl trivial ?_
 refine WL.nil ?_
 refine WC.sr ?_
 refine WL.run tbk 3 hs3 [] rfl trivial ?_
 refine WL.call rfl rfl rfl (Run.call Try.call62 rfl rfl rfl) (c_spec_ScrNew _ _ _ _) ?_
 rintro _ whs4 ⟨r0_5, L0_6, rfl, hs4, ho7, hd0_8⟩
 replace hs4 := hs3.callF hs4
 refine ⟨_, rfl, ?_⟩
 replace hs4 := St.back [_] hs4
 refine WL.run tbk 3 hs4 [] rfl trivial ?_
 refine WL.al hs4 Try.zeroValue33 rfl rfl (fun b9 _ hs10 => ?_)
 refine WL.st tbk hs10 0 rfl rfl (fun _ hs11 => ?_)
 refine WL.run tbk 1 hs11 [] rfl trivial ?_
 refine WL.nil ?_
 refine WC.sr ?_
 refine WL.run tbk 1 hs11 [0] rfl ⟨rfl, trivial⟩ ?_
 refine WL.val rfl rfl rfl (Run.build rfl rfl rfl rfl (built_35_1 _ _ _ _ _ _ _ _ _ _ _ _ _ _ _ _ _ _ _ _ _ _ _ _ _ _ _ _ _ _ _)) ?_
 refine WL.run tbk 1 hs11 [] rfl trivial ?_
 refine WL.st tbk hs11 1 rfl rfl (fun _ hs12 => ?_)
 refine WL.run tbk 1 hs12 [] rfl trivial ?_
 refine WL.nil ?_
 refine WC.ret ?_
 refine retV2 rfl (resV.cellA tbk hs12 1 rfl rfl rfl rfl) (resV.tmp rfl) ?_
 obtain ⟨L15, L16, L17, L18, hs23, ho19, ho20, ho21, ho22⟩ := ownScrR.open_ (St.perm hs12 (L' := L0_6 ++ _) (perm_front (A := [_, _]) (perm_front (A := ([] : Hp)) (perm_front (A := ([] : Hp)) (List.Perm.refl _))))) ho7
 have hs24 := (St.perm (St.perm hs23 (L' := [_] ++ _) (perm_front (A := L15) (perm_front (A := L16) (perm_front (A := L17) (perm_front (A := L18) (perm_front (A := [_]) (List.Perm.refl _))))))) (L' := [_] ++ _) (perm_front (A := [_]) (perm_front (A := L15) (perm_front (A := L16) (perm_front (A := L17) (perm_front (A := L18) (List.Perm.refl _)))))))
 obtain ⟨L26, hs25, ho27⟩ := ownTermR.fold ⟨⟨0, false, ⟨_, _, _, _⟩, ⟨_, _, _, _⟩⟩, ⟨0, 0, ⟨0, 0, ⟨_, _, _, _⟩⟩, ⟨0, 0, ⟨_, _, _, _⟩⟩, false, 0, 0, false, ⟨0, 0, false, false, false⟩, 0, 0, false, false, 0, 0, ⟨0, 0, false, false, false⟩, ⟨_, _, _, _⟩, 0, ⟨_, _, _, _⟩⟩⟩ (St.perm (St.perm (St.perm (St.perm (St.perm (St.perm hs24 (L' := L18 ++ _) (perm_front (A := [_, _]) (perm_front (A := L15) (perm_front (A := L16) (perm_front (A := L17) (List.Perm.refl _)))))) (L' := L17 ++ _) (perm_front (A := L18) (perm_front (A := [_, _]) (perm_front (A := L15) (perm_front (A := L16) (List.Perm.refl _)))))) (L' := L16 ++ _) (perm_front (A := L17) (perm_front (A := L18) (perm_front (A := [_, _]) (perm_front (A := L15) (List.Perm.refl _)))))) (L' := L15 ++ _) (perm_front (A := L16) (perm_front (A := L17) (perm_front (A := L18) (perm_front (A := [_, _]) (List.Perm.refl _)))))) (L' := ([] : Hp) ++ _) (perm_front (A := L15) (perm_front (A := L16) (perm_front (A := L17) (perm_front (A := L18) (perm_front (A := [_, _]) (List.Perm.refl _))))))) (L' := ([] : Hp) ++ _) (perm_front (A := ([] : Hp)) (perm_front (A := L15) (perm_front (A := L16) (perm_front (A := L17) (perm_front (A := L18) (perm_front (A := [_, _]) (List.Perm.refl _)))))))) (OwnF.nil _ _) (OwnF.nil _ _) ho19 ho20 ho21 ho22
 have hs28 := (St.perm (St.perm hs25 (L' := [_] ++ _) (perm_front (A := L26) (perm_front (A := [_]) (List.Perm.refl _)))) (L' := [_] ++ _) (perm_front (A := [_]) (perm_front (A := L26) (List.Perm.refl _))))
 refine ⟨⟨⟨0, false, ⟨none, 0, 0, []⟩, ⟨none, 0, 0, []⟩⟩, ⟨r0_5.W, r0_5.H, ⟨r0_5.Main.W, r0_5.Main.H, SlD.of ho19⟩, ⟨r0_5.Alt.W, r0_5.Alt.H, SlD.of ho20⟩, r0_5.OnAlt, r0_5.X, r0_5.Y, r0_5.Wrap, ⟨r0_5.A.Fg, r0_5.A.Bg, r0_5.A.Bold, r0_5.A.Under, r0_5.A.Turn⟩, r0_5.Top, r0_5.Bot, r0_5.NoWrap, r0_5.Hide, r0_5.SaveX, r0_5.SaveY, ⟨r0_5.SaveA.Fg, r0_5.SaveA.Bg, r0_5.SaveA.Bold, r0_5.SaveA.Under, r0_5.SaveA.Turn⟩, SlD.of ho21, r0_5.Limit, SlD.ofN ho22⟩⟩, _, rfl, (St.keep1 (St.perm hs28 (L' := L26 ++ _) (perm_front (A := [_, _]) (List.Perm.refl _)))), ?_, ?_⟩
 · exact (by exact ho27)
 · exact TermD.ext' rfl hd0_8
end Go.Proofs.Ytlmcekfdlgkffaa
