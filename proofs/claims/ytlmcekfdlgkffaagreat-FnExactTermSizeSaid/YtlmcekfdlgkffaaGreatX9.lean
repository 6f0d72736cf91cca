/- Walks of Go functions, printed by a program (wip/gen). -/
import Derived.Test.YtlmcekfdlgkffaaGreatX6
import Derived.Test.YtlmcekfdlgkffaaGreatX8
import Derived.Test.YtlmcekfdlgkffaaGreatP5
import Derived.Test.YtlmcekfdlgkffaaGreatV3
namespace Go.Proofs.YtlmcekfdlgkffaaGreat
open Go Go.RowKit
set_option linter.unusedVariables false
set_option linter.unusedSimpArgs false
theorem built_46_0_1 (x0 : Value) (x1 : Value) (x2 : Value) (x3 : Value) (x4 : Value) (x5 : Value) (x6 : Value) (x7 : Value) (x8 : Value) (x9 : Value) (x10 : Value) (x11 : Value) (x12 : Value) (x13 : Value) (x14 : Value) (x15 : Value) (x16 : Value) (x17 : Value) (x18 : Value) (x19 : Value) (x20 : Value) (x21 : Value) (x22 : Value) (x23 : Value) (x24 : Value) (x25 : Value) (x26 : Value) (x27 : Value) (x28 : Value) (x29 : Value) (x30 : Value) (x31 : Value) (x32 : Value) (x33 : Value) (x34 : Value) : Tryz.prog.built 46 [(0, .agg [x0, x1, x2, x3].toArray), (1, .agg [x4, x5, x6, x7, x8, x9, x10, x11, x12, x13, x14, x15, x16, x17, x18, x19, x20, x21, x22, x23, x24, x25, x26, x27, x28, x29, x30, x31, x32, x33, x34].toArray)] = some (List.toArray [x0, x1, x2, x3, x4, x5, x6, x7, x8, x9, x10, x11, x12, x13, x14, x15, x16, x17, x18, x19, x20, x21, x22, x23, x24, x25, x26, x27, x28, x29, x30, x31, x32, x33, x34]) := by kernel_rfl
theorem built_46 : Tryz.prog.built 46 [] = some (List.toArray [.int .i64 0, .bool false, .slice none 0 0, .slice none 0 0, .int .i64 0, .int .i64 0, .int .i64 0, .int .i64 0, .slice none 0 0, .int .i64 0, .int .i64 0, .slice none 0 0, .bool false, .int .i64 0, .int .i64 0, .bool false, .int .i64 0, .int .i64 0, .bool false, .bool false, .bool false, .int .i64 0, .int .i64 0, .bool false, .bool false, .int .i64 0, .int .i64 0, .int .i64 0, .int .i64 0, .bool false, .bool false, .bool false, .slice none 0 0, .int .i64 0, .slice none 0 0]) := by kernel_rfl
theorem c_impl_copyTerm (t : TermR) (w : World) (f_t : okTermR 549755813888 w t) (hsm : smTerm 1048576 t.dat) :
    Calls Tryz.prog 60 #[.agg #[i64 t.P.State, .bool t.P.Mark, .slice t.P.Args.A t.P.Args.n t.P.Args.c, .slice t.P.Part.A t.P.Part.n t.P.Part.c, i64 t.S.W, i64 t.S.H, i64 t.S.Main.W, i64 t.S.Main.H, .slice t.S.Main.Cells.A t.S.Main.Cells.n t.S.Main.Cells.c, i64 t.S.Alt.W, i64 t.S.Alt.H, .slice t.S.Alt.Cells.A t.S.Alt.Cells.n t.S.Alt.Cells.c, .bool t.S.OnAlt, i64 t.S.X, i64 t.S.Y, .bool t.S.Wrap, i64 t.S.A.Fg, i64 t.S.A.Bg, .bool t.S.A.Bold, .bool t.S.A.Under, .bool t.S.A.Turn, i64 t.S.Top, i64 t.S.Bot, .bool t.S.NoWrap, .bool t.S.Hide, i64 t.S.SaveX, i64 t.S.SaveY, i64 t.S.SaveA.Fg, i64 t.S.SaveA.Bg, .bool t.S.SaveA.Bold, .bool t.S.SaveA.Under, .bool t.S.SaveA.Turn, .slice t.S.Tabs.A t.S.Tabs.n t.S.Tabs.c, i64 t.S.Limit, .slice t.S.Back.A t.S.Back.n t.S.Back.c]] w fun e w' => ∃ r L1, e = .returned (.agg #[i64 r.P.State, .bool r.P.Mark, .slice r.P.Args.A r.P.Args.n r.P.Args.c, .slice r.P.Part.A r.P.Part.n r.P.Part.c, i64 r.S.W, i64 r.S.H, i64 r.S.Main.W, i64 r.S.Main.H, .slice r.S.Main.Cells.A r.S.Main.Cells.n r.S.Main.Cells.c, i64 r.S.Alt.W, i64 r.S.Alt.H, .slice r.S.Alt.Cells.A r.S.Alt.Cells.n r.S.Alt.Cells.c, .bool r.S.OnAlt, i64 r.S.X, i64 r.S.Y, .bool r.S.Wrap, i64 r.S.A.Fg, i64 r.S.A.Bg, .bool r.S.A.Bold, .bool r.S.A.Under, .bool r.S.A.Turn, i64 r.S.Top, i64 r.S.Bot, .bool r.S.NoWrap, .bool r.S.Hide, i64 r.S.SaveX, i64 r.S.SaveY, i64 r.S.SaveA.Fg, i64 r.S.SaveA.Bg, .bool r.S.SaveA.Bold, .bool r.S.SaveA.Under, .bool r.S.SaveA.Turn, .slice r.S.Tabs.A r.S.Tabs.n r.S.Tabs.c, i64 r.S.Limit, .slice r.S.Back.A r.S.Back.n r.S.Back.c]) ∧ St w [] L1 w' ∧ ownTermR r L1 ∧ r.dat = t.dat := by
 have nb_t_P_Args := f_t.P.Args_n
 have nl_t_P_Args := f_t.P.Args.len
 have nb_t_P_Part := f_t.P.Part_n
 have nl_t_P_Part := f_t.P.Part.len
 have nb_t_S_Main_Cells := f_t.S.Main.Cells_n
 have nl_t_S_Main_Cells := f_t.S.Main.Cells.len
 have nb_t_S_Alt_Cells := f_t.S.Alt.Cells_n
 have nl_t_S_Alt_Cells := f_t.S.Alt.Cells.len
 have nb_t_S_Tabs := f_t.S.Tabs_n
 have nl_t_S_Tabs := f_t.S.Tabs.len
 have nb_t_S_Back := f_t.S.Back_n
 have nl_t_S_Back := f_t.S.Back.sl.len
 refine enter (vs := [.agg #[i64 t.P.State, .bool t.P.Mark, .slice t.P.Args.A t.P.Args.n t.P.Args.c, .slice t.P.Part.A t.P.Part.n t.P.Part.c, i64 t.S.W, i64 t.S.H, i64 t.S.Main.W, i64 t.S.Main.H, .slice t.S.Main.Cells.A t.S.Main.Cells.n t.S.Main.Cells.c, i64 t.S.Alt.W, i64 t.S.Alt.H, .slice t.S.Alt.Cells.A t.S.Alt.Cells.n t.S.Alt.Cells.c, .bool t.S.OnAlt, i64 t.S.X, i64 t.S.Y, .bool t.S.Wrap, i64 t.S.A.Fg, i64 t.S.A.Bg, .bool t.S.A.Bold, .bool t.S.A.Under, .bool t.S.A.Turn, i64 t.S.Top, i64 t.S.Bot, .bool t.S.NoWrap, .bool t.S.Hide, i64 t.S.SaveX, i64 t.S.SaveY, i64 t.S.SaveA.Fg, i64 t.S.SaveA.Bg, .bool t.S.SaveA.Bold, .bool t.S.SaveA.Under, .bool t.S.SaveA.Turn, .slice t.S.Tabs.A t.S.Tabs.n t.S.Tabs.c, i64 t.S.Limit, .slice t.S.Back.A t.S.Back.n t.S.Back.c]]) 10 Tryz.func60 rfl Tryz.ntmps60 rfl rfl ?_
 have hs1 := St.init w
 refine WC.sr ?_
 refine WL.bx hs1 rfl (fun b2 _ hs3 => ?_)
 refine WL.al hs3 Tryz.zeroValue46 rfl rfl (fun b4 _ hs5 => ?_)
 refine WL.nil ?_
 refine WC.seq (fun K6 hK6 => ?_)
 refine WC.regionH2 (fun w' => St _ _ _ w') (fun w' => St _ _ _ w') mixed (St.drew (St.drop hs5 (List.sublist_append_right [_] _))) (St.drew hs5) (fun whs7 hs7 => ?_)
 replace hs7 : St _ _ _ _ := hs7
 refine WH.take 0 rfl (by kernel_rfl) rfl rfl rfl (St.drop hs7 (List.sublist_append_right [_] _)) (fun w_ hs_ => (Run.field Tryz.runUnderlying46 rfl rfl rfl Tryz.sizeOf37 rfl)) ?_
 refine WH.take 1 rfl (by kernel_rfl) rfl rfl rfl (St.drop hs7 (List.sublist_append_right [_] _)) (fun w_ hs_ => (Run.loadLA (hs_ : St _ _ _ _) 0 Tryz.isAgg37 Tryz.sizeOf37 rfl rfl rfl rfl rfl)) ?_
 refine WH.take 3 rfl (by kernel_rfl) rfl rfl rfl (St.drop hs7 (List.sublist_append_right [_] _)) (fun w_ hs_ => (Run.field Tryz.runUnderlying46 rfl rfl rfl Tryz.sizeOf44 rfl)) ?_
 refine WH.take 4 rfl (by kernel_rfl) rfl rfl rfl (St.drop hs7 (List.sublist_append_right [_] _)) (fun w_ hs_ => (Run.loadLA (hs_ : St _ _ _ _) 0 Tryz.isAgg44 Tryz.sizeOf44 rfl rfl rfl rfl rfl)) ?_
 refine WH.all [2] (by kernel_rfl) rfl (WHs.cons (i := 2) rfl ?_ WHs.nil)
 refine WL.call rfl rfl rfl (Run.call Tryz.call136 rfl rfl rfl) (c_impl_copyVp t.P _ (okVpR.st0 f_t.P hs7) ?_) ?_
 · first | (first | assumption | rfl | omega) | (first | exact hsm.1 | exact hsm.2)
 rintro _ whs8 ⟨r9, L1_10, rfl, hs8, ho11, hd12⟩
 replace hs8 := hs7.callF hs8
 refine ⟨_, rfl, ?_⟩
 replace hs8 := St.back [_, _] hs8
 have hvp := hd12
 refine WL.nil ⟨(St.drop (St.perm (St.drop hs8 (List.sublist_append_right [_] _)) (L' := L1_10 ++ _) (perm_front (A := [_]) (List.Perm.refl _))) (List.sublist_append_right L1_10 _)), ?_⟩
 refine WH.all [5] (by kernel_rfl) rfl (WHs.cons (i := 5) rfl ?_ WHs.nil)
 refine WL.call rfl rfl rfl (Run.call Tryz.call137 rfl rfl rfl) (c_impl_copyScr t.S _ (okScrR.st0 f_t.S hs8) ?_) ?_
 · first | (first | assumption | rfl | omega) | (first | exact hsm.1 | exact hsm.2)
 rintro _ whs13 ⟨r14, L1_15, rfl, hs13, ho16, hd17⟩
 replace hs13 := hs8.callF hs13
 refine ⟨_, rfl, ?_⟩
 replace hs13 := St.back [_, _] hs13
 have hsp := hd17
 refine WL.nil ⟨(St.drop (St.perm (St.drop (St.perm (St.drop hs13 (List.sublist_append_right [_] _)) (L' := L1_15 ++ _) (perm_front (A := [_]) (List.Perm.refl _))) (List.sublist_append_right L1_15 _)) (L' := L1_10 ++ _) (perm_front (A := [_]) (List.Perm.refl _))) (List.sublist_append_right L1_10 _)), ?_⟩
 refine WH.take 6 rfl (by kernel_rfl) rfl rfl rfl (St.drop (St.perm (St.drop (St.perm (St.drop hs13 (List.sublist_append_right [_] _)) (L' := L1_15 ++ _) (perm_front (A := [_]) (List.Perm.refl _))) (List.sublist_append_right L1_15 _)) (L' := L1_10 ++ _) (perm_front (A := [_]) (List.Perm.refl _))) (List.sublist_append_right L1_10 _)) (fun w_ hs_ => (Run.build rfl rfl rfl rfl (built_46_0_1 _ _ _ _ _ _ _ _ _ _ _ _ _ _ _ _ _ _ _ _ _ _ _ _ _ _ _ _ _ _ _ _ _ _ _))) ?_
 refine WH.all [7] (by kernel_rfl) rfl (WHs.cons (i := 7) rfl ?_ WHs.nil)
 refine WL.st tbk hs13 0 rfl rfl (fun _ hs18 => ?_)
 refine WL.nil ⟨(St.drop (St.perm (St.drop (St.perm (St.drop hs18 (List.sublist_append_right [_] _)) (L' := L1_15 ++ _) (perm_front (A := [_]) (List.Perm.refl _))) (List.sublist_append_right L1_15 _)) (L' := L1_10 ++ _) (perm_front (A := [_]) (List.Perm.refl _))) (List.sublist_append_right L1_10 _)), ?_⟩
 refine WH.done (by kernel_rfl) ?_
 refine hK6 _ _ ?_
 refine WC.ret ?_
 refine retV1 rfl (resV.cellA tbk hs18 0 rfl rfl rfl rfl) ?_
 obtain ⟨L19, L20, hs23, ho21, ho22⟩ := ownVpR.open_ (St.perm hs18 (L' := L1_10 ++ _) (perm_front (A := [_, _]) (perm_front (A := L1_15) (List.Perm.refl _)))) ho11
 have hs24 := (St.perm (St.perm hs23 (L' := [_] ++ _) (perm_front (A := L19) (perm_front (A := L20) (perm_front (A := [_]) (List.Perm.refl _))))) (L' := [_] ++ _) (perm_front (A := [_]) (perm_front (A := L19) (perm_front (A := L20) (List.Perm.refl _)))))
 obtain ⟨L25, L26, L27, L28, hs33, ho29, ho30, ho31, ho32⟩ := ownScrR.open_ (St.perm hs24 (L' := L1_15 ++ _) (perm_front (A := [_, _]) (perm_front (A := L19) (perm_front (A := L20) (List.Perm.refl _))))) ho16
 have hs34 := (St.perm (St.perm hs33 (L' := [_] ++ _) (perm_front (A := L25) (perm_front (A := L26) (perm_front (A := L27) (perm_front (A := L28) (perm_front (A := [_]) (List.Perm.refl _))))))) (L' := [_] ++ _) (perm_front (A := [_]) (perm_front (A := L25) (perm_front (A := L26) (perm_front (A := L27) (perm_front (A := L28) (List.Perm.refl _)))))))
 obtain ⟨L36, hs35, ho37⟩ := ownTermR.fold ⟨⟨0, false, ⟨_, _, _, _⟩, ⟨_, _, _, _⟩⟩, ⟨0, 0, ⟨0, 0, ⟨_, _, _, _⟩⟩, ⟨0, 0, ⟨_, _, _, _⟩⟩, false, 0, 0, false, ⟨0, 0, false, false, false⟩, 0, 0, false, false, 0, 0, ⟨0, 0, false, false, false⟩, ⟨_, _, _, _⟩, 0, ⟨_, _, _, _⟩⟩⟩ (St.perm (St.perm (St.perm (St.perm (St.perm (St.perm hs34 (L' := L28 ++ _) (perm_front (A := [_, _]) (perm_front (A := L25) (perm_front (A := L26) (perm_front (A := L27) (List.Perm.refl _)))))) (L' := L27 ++ _) (perm_front (A := L28) (perm_front (A := [_, _]) (perm_front (A := L25) (perm_front (A := L26) (List.Perm.refl _)))))) (L' := L26 ++ _) (perm_front (A := L27) (perm_front (A := L28) (perm_front (A := [_, _]) (perm_front (A := L25) (List.Perm.refl _)))))) (L' := L25 ++ _) (perm_front (A := L26) (perm_front (A := L27) (perm_front (A := L28) (perm_front (A := [_, _]) (List.Perm.refl _)))))) (L' := L20 ++ _) (perm_front (A := L25) (perm_front (A := L26) (perm_front (A := L27) (perm_front (A := L28) (perm_front (A := [_, _]) (perm_front (A := L19) (List.Perm.refl _)))))))) (L' := L19 ++ _) (perm_front (A := L20) (perm_front (A := L25) (perm_front (A := L26) (perm_front (A := L27) (perm_front (A := L28) (perm_front (A := [_, _]) (List.Perm.refl _)))))))) ho21 ho22 ho29 ho30 ho31 ho32
 have hs38 := (St.perm (St.perm hs35 (L' := [_] ++ _) (perm_front (A := L36) (perm_front (A := [_]) (List.Perm.refl _)))) (L' := [_] ++ _) (perm_front (A := [_]) (perm_front (A := L36) (List.Perm.refl _))))
 refine ⟨⟨⟨r9.State, r9.Mark, SlD.of ho21, SlD.of ho22⟩, ⟨r14.W, r14.H, ⟨r14.Main.W, r14.Main.H, SlD.of ho29⟩, ⟨r14.Alt.W, r14.Alt.H, SlD.of ho30⟩, r14.OnAlt, r14.X, r14.Y, r14.Wrap, ⟨r14.A.Fg, r14.A.Bg, r14.A.Bold, r14.A.Under, r14.A.Turn⟩, r14.Top, r14.Bot, r14.NoWrap, r14.Hide, r14.SaveX, r14.SaveY, ⟨r14.SaveA.Fg, r14.SaveA.Bg, r14.SaveA.Bold, r14.SaveA.Under, r14.SaveA.Turn⟩, SlD.of ho31, r14.Limit, SlD.ofN ho32⟩⟩, _, rfl, (St.keep1 (St.perm hs38 (L' := L36 ++ _) (perm_front (A := [_, _]) (List.Perm.refl _)))), ?_, ?_⟩
 · exact (by exact ho37)
 · exact TermD.ext' hvp hsp
theorem c_impl_TermSize (t : TermR) (w_ : Int) (h_ : Int) (w : World) (f_t : okTermR 549755813888 w t) (hsm : smTerm 1048576 t.dat) :
    Calls Tryz.prog 15 #[.agg #[i64 t.P.State, .bool t.P.Mark, .slice t.P.Args.A t.P.Args.n t.P.Args.c, .slice t.P.Part.A t.P.Part.n t.P.Part.c, i64 t.S.W, i64 t.S.H, i64 t.S.Main.W, i64 t.S.Main.H, .slice t.S.Main.Cells.A t.S.Main.Cells.n t.S.Main.Cells.c, i64 t.S.Alt.W, i64 t.S.Alt.H, .slice t.S.Alt.Cells.A t.S.Alt.Cells.n t.S.Alt.Cells.c, .bool t.S.OnAlt, i64 t.S.X, i64 t.S.Y, .bool t.S.Wrap, i64 t.S.A.Fg, i64 t.S.A.Bg, .bool t.S.A.Bold, .bool t.S.A.Under, .bool t.S.A.Turn, i64 t.S.Top, i64 t.S.Bot, .bool t.S.NoWrap, .bool t.S.Hide, i64 t.S.SaveX, i64 t.S.SaveY, i64 t.S.SaveA.Fg, i64 t.S.SaveA.Bg, .bool t.S.SaveA.Bold, .bool t.S.SaveA.Under, .bool t.S.SaveA.Turn, .slice t.S.Tabs.A t.S.Tabs.n t.S.Tabs.c, i64 t.S.Limit, .slice t.S.Back.A t.S.Back.n t.S.Back.c], i64 w_, i64 h_] w fun e w' => ∃ r0 L0, e = .returned (.tuple #[.agg #[i64 r0.P.State, .bool r0.P.Mark, .slice r0.P.Args.A r0.P.Args.n r0.P.Args.c, .slice r0.P.Part.A r0.P.Part.n r0.P.Part.c, i64 r0.S.W, i64 r0.S.H, i64 r0.S.Main.W, i64 r0.S.Main.H, .slice r0.S.Main.Cells.A r0.S.Main.Cells.n r0.S.Main.Cells.c, i64 r0.S.Alt.W, i64 r0.S.Alt.H, .slice r0.S.Alt.Cells.A r0.S.Alt.Cells.n r0.S.Alt.Cells.c, .bool r0.S.OnAlt, i64 r0.S.X, i64 r0.S.Y, .bool r0.S.Wrap, i64 r0.S.A.Fg, i64 r0.S.A.Bg, .bool r0.S.A.Bold, .bool r0.S.A.Under, .bool r0.S.A.Turn, i64 r0.S.Top, i64 r0.S.Bot, .bool r0.S.NoWrap, .bool r0.S.Hide, i64 r0.S.SaveX, i64 r0.S.SaveY, i64 r0.S.SaveA.Fg, i64 r0.S.SaveA.Bg, .bool r0.S.SaveA.Bold, .bool r0.S.SaveA.Under, .bool r0.S.SaveA.Turn, .slice r0.S.Tabs.A r0.S.Tabs.n r0.S.Tabs.c, i64 r0.S.Limit, .slice r0.S.Back.A r0.S.Back.n r0.S.Back.c], .bool (termSizeOk t.dat w_ h_)]) ∧ St w [] (L0) w' ∧ ownTermR r0 L0 ∧ r0.dat = termSizeRes t.dat w_ h_ := by
 have nb_t_P_Args := f_t.P.Args_n
 have nl_t_P_Args := f_t.P.Args.len
 have nb_t_P_Part := f_t.P.Part_n
 have nl_t_P_Part := f_t.P.Part.len
 have nb_t_S_Main_Cells := f_t.S.Main.Cells_n
 have nl_t_S_Main_Cells := f_t.S.Main.Cells.len
 have nb_t_S_Alt_Cells := f_t.S.Alt.Cells_n
 have nl_t_S_Alt_Cells := f_t.S.Alt.Cells.len
 have nb_t_S_Tabs := f_t.S.Tabs_n
 have nl_t_S_Tabs := f_t.S.Tabs.len
 have nb_t_S_Back := f_t.S.Back_n
 have nl_t_S_Back := f_t.S.Back.sl.len
 have hsmB : smTerm 549755813888 t.dat := smTerm_mono hsm (by decide)
 refine enter (vs := [.agg #[i64 t.P.State, .bool t.P.Mark, .slice t.P.Args.A t.P.Args.n t.P.Args.c, .slice t.P.Part.A t.P.Part.n t.P.Part.c, i64 t.S.W, i64 t.S.H, i64 t.S.Main.W, i64 t.S.Main.H, .slice t.S.Main.Cells.A t.S.Main.Cells.n t.S.Main.Cells.c, i64 t.S.Alt.W, i64 t.S.Alt.H, .slice t.S.Alt.Cells.A t.S.Alt.Cells.n t.S.Alt.Cells.c, .bool t.S.OnAlt, i64 t.S.X, i64 t.S.Y, .bool t.S.Wrap, i64 t.S.A.Fg, i64 t.S.A.Bg, .bool t.S.A.Bold, .bool t.S.A.Under, .bool t.S.A.Turn, i64 t.S.Top, i64 t.S.Bot, .bool t.S.NoWrap, .bool t.S.Hide, i64 t.S.SaveX, i64 t.S.SaveY, i64 t.S.SaveA.Fg, i64 t.S.SaveA.Bg, .bool t.S.SaveA.Bold, .bool t.S.SaveA.Under, .bool t.S.SaveA.Turn, .slice t.S.Tabs.A t.S.Tabs.n t.S.Tabs.c, i64 t.S.Limit, .slice t.S.Back.A t.S.Back.n t.S.Back.c], i64 w_, i64 h_]) 26 Tryz.func15 rfl Tryz.ntmps15 rfl rfl ?_
 have hs1 := St.init w
 refine WC.sr ?_
 refine WL.bx hs1 rfl (fun b2 _ hs3 => ?_)
 refine WL.al hs3 Tryz.zeroValue46 rfl rfl (fun b4 _ hs5 => ?_)
 refine WL.run tbk 1 hs5 [] rfl trivial ?_
 refine WL.nil ?_
 refine WC.seq (fun K6 hK6 => ?_)
 refine WC.sr ?_
 refine WL.run tbk 1 hs5 [1] rfl ⟨rfl, trivial⟩ ?_
 refine WL.call rfl rfl rfl (Run.call Tryz.call58 rfl rfl rfl) (c_impl_TermOk t _ (okTermR.st0 f_t hs5)) ?_
 rintro _ whs7 ⟨rfl, hs7⟩
 replace hs7 := hs5.call0 hs7
 refine ⟨_, rfl, ?_⟩
 refine WL.run tbk 2 hs7 [] rfl trivial ?_
 apply WL.gO 4 Acts.nil hs7 rfl
 ·intro g8 J9
  have qg8 := g8
  try simp only [bf, within_iff, within_not] at qg8
  refine WL.runA tbk 2 (Acts.nil.cons (j := 3) rfl g8) hs7 [] rfl trivial ?_
  refine WL.call (wantF rfl g8) rfl rfl (Run.call Tryz.call59 rfl rfl rfl) (c_impl_isSize _ _ _) ?_
  rintro _ whs10 ⟨rfl, hs10⟩
  replace hs10 := hs7.call0 hs10
  refine ⟨_, rfl, ?_⟩
  refine WL.runA tbk 1 (Acts.nil.cons (j := 3) rfl g8) hs10 [] rfl trivial ?_
  exact WL.eO 4 Acts.nil J9 hs10 g8 rfl rfl
 ·intro _ hs11
  refine WL.nil ?_
  refine WC.cond rfl (fun h12 => ?_) (fun h12 => ?_)
  ·have qh12 := h12
   try simp only [bf, within_iff, within_not] at qh12
   have hk : termSizeOk t.dat w_ h_ = false := by unfold termSizeOk; have h9 := h12; revert h9; cases termOk t.dat <;> cases isSize w_ h_ <;> simp
   refine WC.sr ?_
   refine WL.val rfl rfl rfl (Run.build rfl rfl rfl rfl (built_46)) ?_
   refine WL.st tbk hs11 0 rfl rfl (fun _ hs13 => ?_)
   refine WL.run tbk 1 hs13 [] rfl trivial ?_
   refine WL.nil ?_
   refine WC.ret ?_
   refine tkR ?_
   clear hK6
   refine retV2 rfl (resV.cellA tbk hs13 0 rfl rfl rfl rfl) (resV.tmp rfl) ?_
   have hv : termSizeRes t.dat w_ h_ = ⟨vp0, scr0⟩ := by unfold termSizeRes; rw [hk]; rfl
   rw [hk]
   obtain ⟨L21, hs20, ho22⟩ := ownTermR.fold ⟨⟨0, false, ⟨_, _, _, _⟩, ⟨_, _, _, _⟩⟩, ⟨0, 0, ⟨0, 0, ⟨_, _, _, _⟩⟩, ⟨0, 0, ⟨_, _, _, _⟩⟩, false, 0, 0, false, ⟨0, 0, false, false, false⟩, 0, 0, false, false, 0, 0, ⟨0, 0, false, false, false⟩, ⟨_, _, _, _⟩, 0, ⟨_, _, _, _⟩⟩⟩ (St.perm (St.perm (St.perm (St.perm (St.perm (St.perm hs13 (L' := ([] : Hp) ++ _) (perm_front (A := [_, _]) (List.Perm.refl _))) (L' := ([] : Hp) ++ _) (perm_front (A := ([] : Hp)) (perm_front (A := [_, _]) (List.Perm.refl _)))) (L' := ([] : Hp) ++ _) (perm_front (A := ([] : Hp)) (perm_front (A := ([] : Hp)) (perm_front (A := [_, _]) (List.Perm.refl _))))) (L' := ([] : Hp) ++ _) (perm_front (A := ([] : Hp)) (perm_front (A := ([] : Hp)) (perm_front (A := ([] : Hp)) (perm_front (A := [_, _]) (List.Perm.refl _)))))) (L' := ([] : Hp) ++ _) (perm_front (A := ([] : Hp)) (perm_front (A := ([] : Hp)) (perm_front (A := ([] : Hp)) (perm_front (A := ([] : Hp)) (perm_front (A := [_, _]) (List.Perm.refl _))))))) (L' := ([] : Hp) ++ _) (perm_front (A := ([] : Hp)) (perm_front (A := ([] : Hp)) (perm_front (A := ([] : Hp)) (perm_front (A := ([] : Hp)) (perm_front (A := ([] : Hp)) (perm_front (A := [_, _]) (List.Perm.refl _)))))))) (OwnF.nil _ _) (OwnF.nil _ _) (OwnF.nil _ _) (OwnF.nil _ _) (OwnF.nil _ _) (OwnN.nil _ _ _)
   have hs23 := (St.perm (St.perm hs20 (L' := [_] ++ _) (perm_front (A := L21) (perm_front (A := [_]) (List.Perm.refl _)))) (L' := [_] ++ _) (perm_front (A := [_]) (perm_front (A := L21) (List.Perm.refl _))))
   refine ⟨⟨⟨0, false, ⟨none, 0, 0, []⟩, ⟨none, 0, 0, []⟩⟩, ⟨0, 0, ⟨0, 0, ⟨none, 0, 0, []⟩⟩, ⟨0, 0, ⟨none, 0, 0, []⟩⟩, false, 0, 0, false, ⟨0, 0, false, false, false⟩, 0, 0, false, false, 0, 0, ⟨0, 0, false, false, false⟩, ⟨none, 0, 0, []⟩, 0, ⟨none, 0, 0, []⟩⟩⟩, _, rfl, (St.keep1 (St.perm hs23 (L' := L21 ++ _) (perm_front (A := [_, _]) (List.Perm.refl _)))), ?_, ?_⟩
   · exact (by exact ho22)
   · rw [hv]; rfl
  ·have qh12 := h12
   try simp only [bf, within_iff, within_not] at qh12
   have hk : termSizeOk t.dat w_ h_ = true := by unfold termSizeOk; have h9 := h12; revert h9; cases termOk t.dat <;> cases isSize w_ h_ <;> simp
   have hT0 : termOk t.dat = true := by unfold termSizeOk at hk; rw [Bool.and_eq_true] at hk; exact hk.1
   have hs : isSize w_ h_ = true := by unfold termSizeOk at hk; rw [Bool.and_eq_true] at hk; exact hk.2
   have hok : scrOk t.S.dat = true := by unfold termOk at hT0; rw [Bool.and_eq_true] at hT0; exact hT0.2
   refine WC.skip ?_
   refine hK6 _ _ ?_
   refine WC.sr ?_
   refine WL.run tbk 1 hs11 [1] rfl ⟨rfl, trivial⟩ ?_
   refine WL.call rfl rfl rfl (Run.call Tryz.call60 rfl rfl rfl) (c_impl_copyTerm t _ (okTermR.st0 f_t hs11) ?_) ?_
   · first | (first | assumption | rfl | omega) | (first | assumption | exact (congrArg scrOk (congrArg TermD.S hcp)).trans hok | exact (congrArg (smScr 1048576) (congrArg TermD.S hcp)).mpr hsm.2)
   rintro _ whs24 ⟨r25, L1_26, rfl, hs24, ho27, hd28⟩
   replace hs24 := hs11.callF hs24
   refine ⟨_, rfl, ?_⟩
   replace hs24 := St.back [_, _] hs24
   have hcp := hd28
   refine WL.al hs24 Tryz.zeroValue46 rfl rfl (fun b29 _ hs30 => ?_)
   refine WL.st tbk hs30 0 rfl rfl (fun _ hs31 => ?_)
   refine WL.nil ?_
   refine WC.sr ?_
   refine WL.run tbk 3 hs31 [] rfl trivial ?_
   obtain ⟨L32, L33, L34, L35, L36, L37, hs44, ho38, ho39, ho40, ho41, ho42, ho43⟩ := ownTermR.open_ (St.perm hs31 (L' := L1_26 ++ _) (perm_front (A := [_, _, _]) (List.Perm.refl _))) ho27
   have hs45 := (St.perm (St.perm (St.perm hs44 (L' := [_] ++ _) (perm_front (A := L32) (perm_front (A := L33) (perm_front (A := L34) (perm_front (A := L35) (perm_front (A := L36) (perm_front (A := L37) (perm_front (A := [_, _]) (List.Perm.refl _))))))))) (L' := [_] ++ _) (perm_front (A := [_]) (perm_front (A := L32) (perm_front (A := L33) (perm_front (A := L34) (perm_front (A := L35) (perm_front (A := L36) (perm_front (A := L37) (perm_front (A := [_]) (List.Perm.refl _)))))))))) (L' := [_] ++ _) (perm_front (A := [_, _]) (perm_front (A := L32) (perm_front (A := L33) (perm_front (A := L34) (perm_front (A := L35) (perm_front (A := L36) (perm_front (A := L37) (List.Perm.refl _)))))))))
   obtain ⟨L47, hs46, ho48⟩ := ownScrR.fold ⟨0, 0, ⟨0, 0, ⟨_, _, _, _⟩⟩, ⟨0, 0, ⟨_, _, _, _⟩⟩, false, 0, 0, false, ⟨0, 0, false, false, false⟩, 0, 0, false, false, 0, 0, ⟨0, 0, false, false, false⟩, ⟨_, _, _, _⟩, 0, ⟨_, _, _, _⟩⟩ (St.perm (St.perm (St.perm (St.perm hs45 (L' := L37 ++ _) (perm_front (A := [_, _, _]) (perm_front (A := L32) (perm_front (A := L33) (perm_front (A := L34) (perm_front (A := L35) (perm_front (A := L36) (List.Perm.refl _)))))))) (L' := L36 ++ _) (perm_front (A := L37) (perm_front (A := [_, _, _]) (perm_front (A := L32) (perm_front (A := L33) (perm_front (A := L34) (perm_front (A := L35) (List.Perm.refl _)))))))) (L' := L35 ++ _) (perm_front (A := L36) (perm_front (A := L37) (perm_front (A := [_, _, _]) (perm_front (A := L32) (perm_front (A := L33) (perm_front (A := L34) (List.Perm.refl _)))))))) (L' := L34 ++ _) (perm_front (A := L35) (perm_front (A := L36) (perm_front (A := L37) (perm_front (A := [_, _, _]) (perm_front (A := L32) (perm_front (A := L33) (List.Perm.refl _)))))))) ho40 ho41 ho42 ho43
   have hs49 := (St.perm (St.perm (St.perm hs46 (L' := [_] ++ _) (perm_front (A := L47) (perm_front (A := [_, _]) (List.Perm.refl _)))) (L' := [_] ++ _) (perm_front (A := [_]) (perm_front (A := L47) (perm_front (A := [_]) (List.Perm.refl _))))) (L' := [_] ++ _) (perm_front (A := [_, _]) (perm_front (A := L47) (List.Perm.refl _))))
   have hF50 : St _ _ ((_, _) :: (L47 ++ _)) _ := (St.perm (St.perm hs49 (L' := L47 ++ _) (perm_front (A := [_, _, _]) (List.Perm.refl _))) (L' := [_] ++ _) (perm_front (A := L47) (List.Perm.refl _)))
   refine WL.call rfl rfl rfl (Run.call Tryz.call61 rfl rfl rfl) (c_impl_Scr_size_at4 _ _ _ _ _ ⟨r25.S.W, r25.S.H, ⟨r25.S.Main.W, r25.S.Main.H, SlD.of ho40⟩, ⟨r25.S.Alt.W, r25.S.Alt.H, SlD.of ho41⟩, r25.S.OnAlt, r25.S.X, r25.S.Y, r25.S.Wrap, ⟨r25.S.A.Fg, r25.S.A.Bg, r25.S.A.Bold, r25.S.A.Under, r25.S.A.Turn⟩, r25.S.Top, r25.S.Bot, r25.S.NoWrap, r25.S.Hide, r25.S.SaveX, r25.S.SaveY, ⟨r25.S.SaveA.Fg, r25.S.SaveA.Bg, r25.S.SaveA.Bold, r25.S.SaveA.Under, r25.S.SaveA.Turn⟩, SlD.of ho42, r25.S.Limit, SlD.ofN ho43⟩ _ _ _ _ (St.headP hF50) (by exact ho48) (St.ownP hF50) (St.nodupP hF50) ?_ ?_ ?_) ?_
   · first | (first | assumption | rfl | omega) | (first | assumption | exact (congrArg scrOk (congrArg TermD.S hcp)).trans hok | exact (congrArg (smScr 1048576) (congrArg TermD.S hcp)).mpr hsm.2)
   · first | (first | assumption | rfl | omega) | (first | assumption | exact (congrArg scrOk (congrArg TermD.S hcp)).trans hok | exact (congrArg (smScr 1048576) (congrArg TermD.S hcp)).mpr hsm.2)
   · first | (first | assumption | rfl | omega) | (first | assumption | exact (congrArg scrOk (congrArg TermD.S hcp)).trans hok | exact (congrArg (smScr 1048576) (congrArg TermD.S hcp)).mpr hsm.2)
   rintro _ whs51 ⟨r52, L53, rfl, hs51, ho54, hd55⟩
   replace hs51 := St.lendP hF50 hs51
   refine ⟨_, rfl, ?_⟩
   have hs56 := (St.perm (St.perm (St.perm hs51 (L' := [_] ++ _) (perm_front (A := [_]) (perm_front (A := L53) (perm_front (A := [_]) (List.Perm.refl _))))) (L' := [_] ++ _) (perm_front (A := [_, _]) (perm_front (A := L53) (List.Perm.refl _)))) (L' := [_] ++ _) (perm_front (A := [_, _]) (List.Perm.refl _)))
   have hsz := hd55
   refine WL.nil ?_
   refine WC.sr ?_
   refine WL.run tbk 1 hs56 [0] rfl ⟨rfl, trivial⟩ ?_
   refine WL.st tbk hs56 1 rfl rfl (fun _ hs57 => ?_)
   refine WL.run tbk 1 hs57 [] rfl trivial ?_
   refine WL.nil ?_
   refine WC.ret ?_
   refine retV2 rfl (resV.cellA tbk hs57 1 rfl rfl rfl rfl) (resV.tmp rfl) ?_
   have hv : termSizeRes t.dat w_ h_ = ⟨t.dat.P, scrSizeOf t.dat.S w_ h_⟩ := by unfold termSizeRes; rw [hk]; rfl
   rw [hk]
   obtain ⟨L58, L59, L60, L61, hs66, ho62, ho63, ho64, ho65⟩ := ownScrR.open_ (St.perm hs57 (L' := L53 ++ _) (perm_front (A := [_, _, _]) (List.Perm.refl _))) ho54
   have hs67 := (St.perm (St.perm (St.perm hs66 (L' := [_] ++ _) (perm_front (A := L58) (perm_front (A := L59) (perm_front (A := L60) (perm_front (A := L61) (perm_front (A := [_, _]) (List.Perm.refl _))))))) (L' := [_] ++ _) (perm_front (A := [_]) (perm_front (A := L58) (perm_front (A := L59) (perm_front (A := L60) (perm_front (A := L61) (perm_front (A := [_]) (List.Perm.refl _)))))))) (L' := [_] ++ _) (perm_front (A := [_, _]) (perm_front (A := L58) (perm_front (A := L59) (perm_front (A := L60) (perm_front (A := L61) (List.Perm.refl _)))))))
   obtain ⟨L69, hs68, ho70⟩ := ownTermR.fold ⟨⟨0, false, ⟨_, _, _, _⟩, ⟨_, _, _, _⟩⟩, ⟨0, 0, ⟨0, 0, ⟨_, _, _, _⟩⟩, ⟨0, 0, ⟨_, _, _, _⟩⟩, false, 0, 0, false, ⟨0, 0, false, false, false⟩, 0, 0, false, false, 0, 0, ⟨0, 0, false, false, false⟩, ⟨_, _, _, _⟩, 0, ⟨_, _, _, _⟩⟩⟩ (St.perm (St.perm (St.perm (St.perm (St.perm (St.perm hs67 (L' := L61 ++ _) (perm_front (A := [_, _, _]) (perm_front (A := L58) (perm_front (A := L59) (perm_front (A := L60) (List.Perm.refl _)))))) (L' := L60 ++ _) (perm_front (A := L61) (perm_front (A := [_, _, _]) (perm_front (A := L58) (perm_front (A := L59) (List.Perm.refl _)))))) (L' := L59 ++ _) (perm_front (A := L60) (perm_front (A := L61) (perm_front (A := [_, _, _]) (perm_front (A := L58) (List.Perm.refl _)))))) (L' := L58 ++ _) (perm_front (A := L59) (perm_front (A := L60) (perm_front (A := L61) (perm_front (A := [_, _, _]) (List.Perm.refl _)))))) (L' := L33 ++ _) (perm_front (A := L58) (perm_front (A := L59) (perm_front (A := L60) (perm_front (A := L61) (perm_front (A := [_, _, _]) (perm_front (A := L32) (List.Perm.refl _)))))))) (L' := L32 ++ _) (perm_front (A := L33) (perm_front (A := L58) (perm_front (A := L59) (perm_front (A := L60) (perm_front (A := L61) (perm_front (A := [_, _, _]) (List.Perm.refl _)))))))) ho38 ho39 ho62 ho63 ho64 ho65
   have hs71 := (St.perm (St.perm (St.perm hs68 (L' := [_] ++ _) (perm_front (A := L69) (perm_front (A := [_, _]) (List.Perm.refl _)))) (L' := [_] ++ _) (perm_front (A := [_]) (perm_front (A := L69) (perm_front (A := [_]) (List.Perm.refl _))))) (L' := [_] ++ _) (perm_front (A := [_, _]) (perm_front (A := L69) (List.Perm.refl _))))
   refine ⟨⟨⟨r25.P.State, r25.P.Mark, SlD.of ho38, SlD.of ho39⟩, ⟨r52.W, r52.H, ⟨r52.Main.W, r52.Main.H, SlD.of ho62⟩, ⟨r52.Alt.W, r52.Alt.H, SlD.of ho63⟩, r52.OnAlt, r52.X, r52.Y, r52.Wrap, ⟨r52.A.Fg, r52.A.Bg, r52.A.Bold, r52.A.Under, r52.A.Turn⟩, r52.Top, r52.Bot, r52.NoWrap, r52.Hide, r52.SaveX, r52.SaveY, ⟨r52.SaveA.Fg, r52.SaveA.Bg, r52.SaveA.Bold, r52.SaveA.Under, r52.SaveA.Turn⟩, SlD.of ho64, r52.Limit, SlD.ofN ho65⟩⟩, _, rfl, (St.keep1 (St.perm hs71 (L' := L69 ++ _) (perm_front (A := [_, _, _]) (List.Perm.refl _)))), ?_, ?_⟩
   · exact (by exact ho70)
   · rw [hv]; exact TermD.ext' (by have h_ := congrArg TermD.P hcp; exact h_) (hsz.trans (by have h_ := congrArg (fun d : TermD => scrSizeOf d.S w_ h_) hcp; exact h_))
theorem c_spec_TermSize (t : TermR) (w_ : Int) (h_ : Int) (w : World) (f_t : okTermR 549755813888 w t) (hsm : smTerm 1048576 t.dat) :
    Calls Tryz.prog 13 #[.agg #[i64 t.P.State, .bool t.P.Mark, .slice t.P.Args.A t.P.Args.n t.P.Args.c, .slice t.P.Part.A t.P.Part.n t.P.Part.c, i64 t.S.W, i64 t.S.H, i64 t.S.Main.W, i64 t.S.Main.H, .slice t.S.Main.Cells.A t.S.Main.Cells.n t.S.Main.Cells.c, i64 t.S.Alt.W, i64 t.S.Alt.H, .slice t.S.Alt.Cells.A t.S.Alt.Cells.n t.S.Alt.Cells.c, .bool t.S.OnAlt, i64 t.S.X, i64 t.S.Y, .bool t.S.Wrap, i64 t.S.A.Fg, i64 t.S.A.Bg, .bool t.S.A.Bold, .bool t.S.A.Under, .bool t.S.A.Turn, i64 t.S.Top, i64 t.S.Bot, .bool t.S.NoWrap, .bool t.S.Hide, i64 t.S.SaveX, i64 t.S.SaveY, i64 t.S.SaveA.Fg, i64 t.S.SaveA.Bg, .bool t.S.SaveA.Bold, .bool t.S.SaveA.Under, .bool t.S.SaveA.Turn, .slice t.S.Tabs.A t.S.Tabs.n t.S.Tabs.c, i64 t.S.Limit, .slice t.S.Back.A t.S.Back.n t.S.Back.c], i64 w_, i64 h_] w fun e w' => ∃ r0 L0, e = .returned (.tuple #[.agg #[i64 r0.P.State, .bool r0.P.Mark, .slice r0.P.Args.A r0.P.Args.n r0.P.Args.c, .slice r0.P.Part.A r0.P.Part.n r0.P.Part.c, i64 r0.S.W, i64 r0.S.H, i64 r0.S.Main.W, i64 r0.S.Main.H, .slice r0.S.Main.Cells.A r0.S.Main.Cells.n r0.S.Main.Cells.c, i64 r0.S.Alt.W, i64 r0.S.Alt.H, .slice r0.S.Alt.Cells.A r0.S.Alt.Cells.n r0.S.Alt.Cells.c, .bool r0.S.OnAlt, i64 r0.S.X, i64 r0.S.Y, .bool r0.S.Wrap, i64 r0.S.A.Fg, i64 r0.S.A.Bg, .bool r0.S.A.Bold, .bool r0.S.A.Under, .bool r0.S.A.Turn, i64 r0.S.Top, i64 r0.S.Bot, .bool r0.S.NoWrap, .bool r0.S.Hide, i64 r0.S.SaveX, i64 r0.S.SaveY, i64 r0.S.SaveA.Fg, i64 r0.S.SaveA.Bg, .bool r0.S.SaveA.Bold, .bool r0.S.SaveA.Under, .bool r0.S.SaveA.Turn, .slice r0.S.Tabs.A r0.S.Tabs.n r0.S.Tabs.c, i64 r0.S.Limit, .slice r0.S.Back.A r0.S.Back.n r0.S.Back.c], .bool (termSizeOk t.dat w_ h_)]) ∧ St w [] (L0) w' ∧ ownTermR r0 L0 ∧ r0.dat = termSizeRes t.dat w_ h_ := by
 have nb_t_P_Args := f_t.P.Args_n
 have nl_t_P_Args := f_t.P.Args.len
 have nb_t_P_Part := f_t.P.Part_n
 have nl_t_P_Part := f_t.P.Part.len
 have nb_t_S_Main_Cells := f_t.S.Main.Cells_n
 have nl_t_S_Main_Cells := f_t.S.Main.Cells.len
 have nb_t_S_Alt_Cells := f_t.S.Alt.Cells_n
 have nl_t_S_Alt_Cells := f_t.S.Alt.Cells.len
 have nb_t_S_Tabs := f_t.S.Tabs_n
 have nl_t_S_Tabs := f_t.S.Tabs.len
 have nb_t_S_Back := f_t.S.Back_n
 have nl_t_S_Back := f_t.S.Back.sl.len
 refine enter (vs := [.agg #[i64 t.P.State, .bool t.P.Mark, .slice t.P.Args.A t.P.Args.n t.P.Args.c, .slice t.P.Part.A t.P.Part.n t.P.Part.c, i64 t.S.W, i64 t.S.H, i64 t.S.Main.W, i64 t.S.Main.H, .slice t.S.Main.Cells.A t.S.Main.Cells.n t.S.Main.Cells.c, i64 t.S.Alt.W, i64 t.S.Alt.H, .slice t.S.Alt.Cells.A t.S.Alt.Cells.n t.S.Alt.Cells.c, .bool t.S.OnAlt, i64 t.S.X, i64 t.S.Y, .bool t.S.Wrap, i64 t.S.A.Fg, i64 t.S.A.Bg, .bool t.S.A.Bold, .bool t.S.A.Under, .bool t.S.A.Turn, i64 t.S.Top, i64 t.S.Bot, .bool t.S.NoWrap, .bool t.S.Hide, i64 t.S.SaveX, i64 t.S.SaveY, i64 t.S.SaveA.Fg, i64 t.S.SaveA.Bg, .bool t.S.SaveA.Bold, .bool t.S.SaveA.Under, .bool t.S.SaveA.Turn, .slice t.S.Tabs.A t.S.Tabs.n t.S.Tabs.c, i64 t.S.Limit, .slice t.S.Back.A t.S.Back.n t.S.Back.c], i64 w_, i64 h_]) 30 Tryz.func13 rfl Tryz.ntmps13 rfl rfl ?_
 have hs1 := St.init w
 refine WC.sr ?_
 refine WL.bx hs1 rfl (fun b2 _ hs3 => ?_)
 refine WL.al hs3 Tryz.zeroValue46 rfl rfl (fun b4 _ hs5 => ?_)
 refine WL.run tbk 1 hs5 [] rfl trivial ?_
 refine WL.nil ?_
 refine WC.seq (fun K6 hK6 => ?_)
 refine WC.sr ?_
 refine WL.run tbk 1 hs5 [1] rfl ⟨rfl, trivial⟩ ?_
 refine WL.call rfl rfl rfl (Run.call Tryz.call54 rfl rfl rfl) (c_spec_TermOk t _ (okTermR.st0 f_t hs5)) ?_
 rintro _ whs7 ⟨rfl, hs7⟩
 replace hs7 := hs5.call0 hs7
 refine ⟨_, rfl, ?_⟩
 refine WL.run tbk 1 hs7 [] rfl trivial ?_
 refine WL.nil ?_
 refine WC.cond rfl (fun h8 => ?_) (fun h8 => ?_)
 ·have qh8 := h8
  try simp only [bf, within_iff, within_not] at qh8
  have hk : termSizeOk t.dat w_ h_ = false := by unfold termSizeOk; have h9 := h8; rw [Bool.not_eq_true'] at h9; rw [h9]; rfl
  refine WC.sr ?_
  refine WL.val rfl rfl rfl (Run.build rfl rfl rfl rfl (built_46)) ?_
  refine WL.st tbk hs7 0 rfl rfl (fun _ hs9 => ?_)
  refine WL.run tbk 1 hs9 [] rfl trivial ?_
  refine WL.nil ?_
  refine WC.ret ?_
  refine tkR ?_
  clear hK6
  refine retV2 rfl (resV.cellA tbk hs9 0 rfl rfl rfl rfl) (resV.tmp rfl) ?_
  have hv : termSizeRes t.dat w_ h_ = ⟨vp0, scr0⟩ := by unfold termSizeRes; rw [hk]; rfl
  rw [hk]
  obtain ⟨L17, hs16, ho18⟩ := ownTermR.fold ⟨⟨0, false, ⟨_, _, _, _⟩, ⟨_, _, _, _⟩⟩, ⟨0, 0, ⟨0, 0, ⟨_, _, _, _⟩⟩, ⟨0, 0, ⟨_, _, _, _⟩⟩, false, 0, 0, false, ⟨0, 0, false, false, false⟩, 0, 0, false, false, 0, 0, ⟨0, 0, false, false, false⟩, ⟨_, _, _, _⟩, 0, ⟨_, _, _, _⟩⟩⟩ (St.perm (St.perm (St.perm (St.perm (St.perm (St.perm hs9 (L' := ([] : Hp) ++ _) (perm_front (A := [_, _]) (List.Perm.refl _))) (L' := ([] : Hp) ++ _) (perm_front (A := ([] : Hp)) (perm_front (A := [_, _]) (List.Perm.refl _)))) (L' := ([] : Hp) ++ _) (perm_front (A := ([] : Hp)) (perm_front (A := ([] : Hp)) (perm_front (A := [_, _]) (List.Perm.refl _))))) (L' := ([] : Hp) ++ _) (perm_front (A := ([] : Hp)) (perm_front (A := ([] : Hp)) (perm_front (A := ([] : Hp)) (perm_front (A := [_, _]) (List.Perm.refl _)))))) (L' := ([] : Hp) ++ _) (perm_front (A := ([] : Hp)) (perm_front (A := ([] : Hp)) (perm_front (A := ([] : Hp)) (perm_front (A := ([] : Hp)) (perm_front (A := [_, _]) (List.Perm.refl _))))))) (L' := ([] : Hp) ++ _) (perm_front (A := ([] : Hp)) (perm_front (A := ([] : Hp)) (perm_front (A := ([] : Hp)) (perm_front (A := ([] : Hp)) (perm_front (A := ([] : Hp)) (perm_front (A := [_, _]) (List.Perm.refl _)))))))) (OwnF.nil _ _) (OwnF.nil _ _) (OwnF.nil _ _) (OwnF.nil _ _) (OwnF.nil _ _) (OwnN.nil _ _ _)
  have hs19 := (St.perm (St.perm hs16 (L' := [_] ++ _) (perm_front (A := L17) (perm_front (A := [_]) (List.Perm.refl _)))) (L' := [_] ++ _) (perm_front (A := [_]) (perm_front (A := L17) (List.Perm.refl _))))
  refine ⟨⟨⟨0, false, ⟨none, 0, 0, []⟩, ⟨none, 0, 0, []⟩⟩, ⟨0, 0, ⟨0, 0, ⟨none, 0, 0, []⟩⟩, ⟨0, 0, ⟨none, 0, 0, []⟩⟩, false, 0, 0, false, ⟨0, 0, false, false, false⟩, 0, 0, false, false, 0, 0, ⟨0, 0, false, false, false⟩, ⟨none, 0, 0, []⟩, 0, ⟨none, 0, 0, []⟩⟩⟩, _, rfl, (St.keep1 (St.perm hs19 (L' := L17 ++ _) (perm_front (A := [_, _]) (List.Perm.refl _)))), ?_, ?_⟩
  · exact (by exact ho18)
  · rw [hv]; rfl
 ·have qh8 := h8
  try simp only [bf, within_iff, within_not] at qh8
  have hT0 : termOk t.dat = true := by have h9 := h8; simpa using h9
  have hT1 : termSizeOk t.dat w_ h_ = scrSizeOk t.S.dat w_ h_ := by unfold termSizeOk scrSizeOk; unfold termOk at hT0 ⊢; rw [Bool.and_eq_true] at hT0; rw [show t.dat.S = t.S.dat from rfl] at *; rw [hT0.1, hT0.2]; simp
  refine WC.skip ?_
  refine hK6 _ _ ?_
  refine WC.sr ?_
  refine WL.run tbk 4 hs7 [1] rfl ⟨rfl, trivial⟩ ?_
  refine WL.call rfl rfl rfl (Run.call Tryz.call55 rfl rfl rfl) (c_spec_ScrSize t.S _ _ _ (okScrR.st0 f_t.S hs7) ?_) ?_
  · first | (first | assumption | rfl | omega) | (first | assumption | exact hsm.1 | exact hsm.2)
  rintro _ whs20 ⟨r0_21, L0_22, rfl, hs20, ho23, hd0_24⟩
  replace hs20 := hs7.callF hs20
  refine ⟨_, rfl, ?_⟩
  replace hs20 := St.back [_, _] hs20
  have hsz := hd0_24
  refine WL.run tbk 3 hs20 [] rfl trivial ?_
  refine WL.al hs20 Tryz.zeroValue44 rfl rfl (fun b25 _ hs26 => ?_)
  refine WL.st tbk hs26 0 rfl rfl (fun _ hs27 => ?_)
  refine WL.run tbk 1 hs27 [] rfl trivial ?_
  refine WL.nil ?_
  refine WC.seq (fun K28 hK28 => ?_)
  refine WC.rr tbk hs27 [] rfl trivial ?_
  refine WC.cond rfl (fun h29 => ?_) (fun h29 => ?_)
  ·have qh29 := h29
   try simp only [bf, within_iff, within_not] at qh29
   have hk : termSizeOk t.dat w_ h_ = false := by rw [hT1]; have h9 := h29; simpa using h9
   refine WC.sr ?_
   refine WL.val rfl rfl rfl (Run.build rfl rfl rfl rfl (built_46)) ?_
   refine WL.st tbk hs27 1 rfl rfl (fun _ hs30 => ?_)
   refine WL.run tbk 1 hs30 [] rfl trivial ?_
   refine WL.nil ?_
   refine WC.ret ?_
   refine tkR ?_
   clear hK28
   refine retV2 rfl (resV.cellA tbk hs30 1 rfl rfl rfl rfl) (resV.tmp rfl) ?_
   have hv : termSizeRes t.dat w_ h_ = ⟨vp0, scr0⟩ := by unfold termSizeRes; rw [hk]; rfl
   rw [hk]
   obtain ⟨L38, hs37, ho39⟩ := ownTermR.fold ⟨⟨0, false, ⟨_, _, _, _⟩, ⟨_, _, _, _⟩⟩, ⟨0, 0, ⟨0, 0, ⟨_, _, _, _⟩⟩, ⟨0, 0, ⟨_, _, _, _⟩⟩, false, 0, 0, false, ⟨0, 0, false, false, false⟩, 0, 0, false, false, 0, 0, ⟨0, 0, false, false, false⟩, ⟨_, _, _, _⟩, 0, ⟨_, _, _, _⟩⟩⟩ (St.perm (St.perm (St.perm (St.perm (St.perm (St.perm hs30 (L' := ([] : Hp) ++ _) (perm_front (A := [_, _, _]) (List.Perm.refl _))) (L' := ([] : Hp) ++ _) (perm_front (A := ([] : Hp)) (perm_front (A := [_, _, _]) (List.Perm.refl _)))) (L' := ([] : Hp) ++ _) (perm_front (A := ([] : Hp)) (perm_front (A := ([] : Hp)) (perm_front (A := [_, _, _]) (List.Perm.refl _))))) (L' := ([] : Hp) ++ _) (perm_front (A := ([] : Hp)) (perm_front (A := ([] : Hp)) (perm_front (A := ([] : Hp)) (perm_front (A := [_, _, _]) (List.Perm.refl _)))))) (L' := ([] : Hp) ++ _) (perm_front (A := ([] : Hp)) (perm_front (A := ([] : Hp)) (perm_front (A := ([] : Hp)) (perm_front (A := ([] : Hp)) (perm_front (A := [_, _, _]) (List.Perm.refl _))))))) (L' := ([] : Hp) ++ _) (perm_front (A := ([] : Hp)) (perm_front (A := ([] : Hp)) (perm_front (A := ([] : Hp)) (perm_front (A := ([] : Hp)) (perm_front (A := ([] : Hp)) (perm_front (A := [_, _, _]) (List.Perm.refl _)))))))) (OwnF.nil _ _) (OwnF.nil _ _) (OwnF.nil _ _) (OwnF.nil _ _) (OwnF.nil _ _) (OwnN.nil _ _ _)
   have hs40 := (St.perm (St.perm (St.perm hs37 (L' := [_] ++ _) (perm_front (A := L38) (perm_front (A := [_, _]) (List.Perm.refl _)))) (L' := [_] ++ _) (perm_front (A := [_]) (perm_front (A := L38) (perm_front (A := [_]) (List.Perm.refl _))))) (L' := [_] ++ _) (perm_front (A := [_, _]) (perm_front (A := L38) (List.Perm.refl _))))
   refine ⟨⟨⟨0, false, ⟨none, 0, 0, []⟩, ⟨none, 0, 0, []⟩⟩, ⟨0, 0, ⟨0, 0, ⟨none, 0, 0, []⟩⟩, ⟨0, 0, ⟨none, 0, 0, []⟩⟩, false, 0, 0, false, ⟨0, 0, false, false, false⟩, 0, 0, false, false, 0, 0, ⟨0, 0, false, false, false⟩, ⟨none, 0, 0, []⟩, 0, ⟨none, 0, 0, []⟩⟩⟩, _, rfl, (St.keep1 (St.perm hs40 (L' := L38 ++ _) (perm_front (A := [_, _, _]) (List.Perm.refl _)))), ?_, ?_⟩
   · exact (by exact ho39)
   · rw [hv]; rfl
  ·have qh29 := h29
   try simp only [bf, within_iff, within_not] at qh29
   have hk : termSizeOk t.dat w_ h_ = true := by rw [hT1]; have h9 := h29; simpa using h9
   refine WC.skip ?_
   refine hK28 _ _ ?_
   refine WC.seq (fun K41 hK41 => ?_)
   refine WC.regionG 5 (fun w' => St _ _ _ w') (fun w' => St _ _ _ w') (fun w' => St _ _ _ w') mixed (St.drew (St.drop hs27 (List.Sublist.cons_cons _ (List.Sublist.cons _ (List.Sublist.cons_cons _ (List.Sublist.refl _)))))) (St.drew hs27) (St.drew hs27) (fun whs42 hs42 => ?_)
   replace hs42 : St _ _ _ _ := hs42
   refine WG.take 0 rfl (by kernel_rfl) (by kernel_rfl) rfl rfl rfl hs42 (fun w_ hs_ => (Run.field Tryz.runUnderlying46 rfl rfl rfl Tryz.sizeOf37 rfl)) ?_
   refine WG.take 1 rfl (by kernel_rfl) (by kernel_rfl) rfl rfl rfl hs42 (fun w_ hs_ => (Run.loadLA (hs_ : St _ _ _ _) 2 Tryz.isAgg37 Tryz.sizeOf37 rfl rfl rfl rfl rfl)) ?_
   refine WG.take 3 rfl (by kernel_rfl) (by kernel_rfl) rfl rfl rfl hs42 (fun w_ hs_ => (Run.loadLA (hs_ : St _ _ _ _) 0 Tryz.isAgg44 Tryz.sizeOf44 rfl rfl rfl rfl rfl)) ?_
   refine WG.all [2] (by kernel_rfl) rfl (WGs.cons (i := 2) rfl rfl ?_ WGs.nil)
   refine WL.call rfl rfl rfl (Run.call Tryz.call56 rfl rfl rfl) (c_spec_l08Copy t.P _ (okVpR.st0 f_t.P hs42) ?_) ?_
   · first | (first | assumption | rfl | omega) | (first | assumption | exact hsm.1 | exact hsm.2)
   rintro _ whs44 ⟨r45, L1_46, rfl, hs44, ho47, hd48⟩
   replace hs44 := hs42.callF hs44
   refine ⟨_, rfl, ?_⟩
   replace hs44 := St.back [_, _, _] hs44
   have hvp := hd48
   refine WL.nil ⟨(St.drop (St.perm hs44 (L' := L1_46 ++ _) (perm_front (A := [_, _, _]) (List.Perm.refl _))) (List.sublist_append_right L1_46 _)), ?_⟩
   refine WG.take 4 rfl (by kernel_rfl) (by kernel_rfl) rfl rfl rfl (St.drop (St.perm hs44 (L' := L1_46 ++ _) (perm_front (A := [_, _, _]) (List.Perm.refl _))) (List.sublist_append_right L1_46 _)) (fun w_ hs_ => (Run.build rfl rfl rfl rfl (built_46_0_1 _ _ _ _ _ _ _ _ _ _ _ _ _ _ _ _ _ _ _ _ _ _ _ _ _ _ _ _ _ _ _ _ _ _ _))) ?_
   refine WG.all [5] (by kernel_rfl) rfl (WGs.consK rfl ?_ WGs.nil)
   refine WL.st tbk hs44 1 rfl rfl (fun _ hs49 => ?_)
   refine WL.nil ⟨(St.drop (St.perm (St.drop hs49 (List.Sublist.cons_cons _ (List.Sublist.cons _ (List.Sublist.cons_cons _ (List.Sublist.refl _))))) (L' := L1_46 ++ _) (perm_front (A := [_, _]) (List.Perm.refl _))) (List.sublist_append_right L1_46 _)), ?_⟩
   refine WH.take 6 rfl (by kernel_rfl) rfl rfl rfl (St.drop (St.perm (St.drop hs49 (List.Sublist.cons_cons _ (List.Sublist.cons _ (List.Sublist.cons_cons _ (List.Sublist.refl _))))) (L' := L1_46 ++ _) (perm_front (A := [_, _]) (List.Perm.refl _))) (List.sublist_append_right L1_46 _)) (fun w_ hs_ => (Run.assign rfl rfl)) ?_
   refine WH.done (by kernel_rfl) ?_
   refine hK41 _ _ ?_
   refine WC.ret ?_
   refine retV2 rfl (resV.cellA tbk hs49 1 rfl rfl rfl rfl) (resV.tmp rfl) ?_
   have hv : termSizeRes t.dat w_ h_ = ⟨t.dat.P, scrSizeOf t.dat.S w_ h_⟩ := by unfold termSizeRes; rw [hk]; rfl
   rw [hk]
   obtain ⟨L50, L51, hs54, ho52, ho53⟩ := ownVpR.open_ (St.perm hs49 (L' := L1_46 ++ _) (perm_front (A := [_, _, _]) (List.Perm.refl _))) ho47
   have hs55 := (St.perm (St.perm (St.perm hs54 (L' := [_] ++ _) (perm_front (A := L50) (perm_front (A := L51) (perm_front (A := [_, _]) (List.Perm.refl _))))) (L' := [_] ++ _) (perm_front (A := [_]) (perm_front (A := L50) (perm_front (A := L51) (perm_front (A := [_]) (List.Perm.refl _)))))) (L' := [_] ++ _) (perm_front (A := [_, _]) (perm_front (A := L50) (perm_front (A := L51) (List.Perm.refl _)))))
   obtain ⟨L56, L57, L58, L59, hs64, ho60, ho61, ho62, ho63⟩ := ownScrR.open_ (St.perm hs55 (L' := L0_22 ++ _) (perm_front (A := [_, _, _]) (perm_front (A := L50) (perm_front (A := L51) (List.Perm.refl _))))) ho23
   have hs65 := (St.perm (St.perm (St.perm hs64 (L' := [_] ++ _) (perm_front (A := L56) (perm_front (A := L57) (perm_front (A := L58) (perm_front (A := L59) (perm_front (A := [_, _]) (List.Perm.refl _))))))) (L' := [_] ++ _) (perm_front (A := [_]) (perm_front (A := L56) (perm_front (A := L57) (perm_front (A := L58) (perm_front (A := L59) (perm_front (A := [_]) (List.Perm.refl _)))))))) (L' := [_] ++ _) (perm_front (A := [_, _]) (perm_front (A := L56) (perm_front (A := L57) (perm_front (A := L58) (perm_front (A := L59) (List.Perm.refl _)))))))
   obtain ⟨L67, hs66, ho68⟩ := ownTermR.fold ⟨⟨0, false, ⟨_, _, _, _⟩, ⟨_, _, _, _⟩⟩, ⟨0, 0, ⟨0, 0, ⟨_, _, _, _⟩⟩, ⟨0, 0, ⟨_, _, _, _⟩⟩, false, 0, 0, false, ⟨0, 0, false, false, false⟩, 0, 0, false, false, 0, 0, ⟨0, 0, false, false, false⟩, ⟨_, _, _, _⟩, 0, ⟨_, _, _, _⟩⟩⟩ (St.perm (St.perm (St.perm (St.perm (St.perm (St.perm hs65 (L' := L59 ++ _) (perm_front (A := [_, _, _]) (perm_front (A := L56) (perm_front (A := L57) (perm_front (A := L58) (List.Perm.refl _)))))) (L' := L58 ++ _) (perm_front (A := L59) (perm_front (A := [_, _, _]) (perm_front (A := L56) (perm_front (A := L57) (List.Perm.refl _)))))) (L' := L57 ++ _) (perm_front (A := L58) (perm_front (A := L59) (perm_front (A := [_, _, _]) (perm_front (A := L56) (List.Perm.refl _)))))) (L' := L56 ++ _) (perm_front (A := L57) (perm_front (A := L58) (perm_front (A := L59) (perm_front (A := [_, _, _]) (List.Perm.refl _)))))) (L' := L51 ++ _) (perm_front (A := L56) (perm_front (A := L57) (perm_front (A := L58) (perm_front (A := L59) (perm_front (A := [_, _, _]) (perm_front (A := L50) (List.Perm.refl _)))))))) (L' := L50 ++ _) (perm_front (A := L51) (perm_front (A := L56) (perm_front (A := L57) (perm_front (A := L58) (perm_front (A := L59) (perm_front (A := [_, _, _]) (List.Perm.refl _)))))))) ho52 ho53 ho60 ho61 ho62 ho63
   have hs69 := (St.perm (St.perm (St.perm hs66 (L' := [_] ++ _) (perm_front (A := L67) (perm_front (A := [_, _]) (List.Perm.refl _)))) (L' := [_] ++ _) (perm_front (A := [_]) (perm_front (A := L67) (perm_front (A := [_]) (List.Perm.refl _))))) (L' := [_] ++ _) (perm_front (A := [_, _]) (perm_front (A := L67) (List.Perm.refl _))))
   refine ⟨⟨⟨r45.State, r45.Mark, SlD.of ho52, SlD.of ho53⟩, ⟨r0_21.W, r0_21.H, ⟨r0_21.Main.W, r0_21.Main.H, SlD.of ho60⟩, ⟨r0_21.Alt.W, r0_21.Alt.H, SlD.of ho61⟩, r0_21.OnAlt, r0_21.X, r0_21.Y, r0_21.Wrap, ⟨r0_21.A.Fg, r0_21.A.Bg, r0_21.A.Bold, r0_21.A.Under, r0_21.A.Turn⟩, r0_21.Top, r0_21.Bot, r0_21.NoWrap, r0_21.Hide, r0_21.SaveX, r0_21.SaveY, ⟨r0_21.SaveA.Fg, r0_21.SaveA.Bg, r0_21.SaveA.Bold, r0_21.SaveA.Under, r0_21.SaveA.Turn⟩, SlD.of ho62, r0_21.Limit, SlD.ofN ho63⟩⟩, _, rfl, (St.keep1 (St.perm hs69 (L' := L67 ++ _) (perm_front (A := [_, _, _]) (List.Perm.refl _)))), ?_, ?_⟩
   · exact (by exact ho68)
   · rw [hv]; exact TermD.ext' hvp (hsz.trans (by unfold scrSizeRes; rw [show scrSizeOk t.S.dat w_ h_ = true from hT1 ▸ hk]; rfl))
end Go.Proofs.YtlmcekfdlgkffaaGreat
