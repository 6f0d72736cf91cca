/- Walks of Go functions, printed by a program (wip/gen). -/
import Derived.Test.YtlmcekfdlgkffaaGreatH3
namespace Go.Proofs.YtlmcekfdlgkffaaGreat
open Go Go.RowKit
set_option linter.unusedVariables false
set_option linter.unusedSimpArgs false
set_option maxHeartbeats 4000000 in
theorem c_laws_toTerm (a : TermR) (w : World) (f_a : okTermR 549755813888 w a) :
    Calls Tryz.prog 14 #[.agg #[i64 a.P.State, .bool a.P.Mark, .slice a.P.Args.A a.P.Args.n a.P.Args.c, .slice a.P.Part.A a.P.Part.n a.P.Part.c, i64 a.S.W, i64 a.S.H, i64 a.S.Main.W, i64 a.S.Main.H, .slice a.S.Main.Cells.A a.S.Main.Cells.n a.S.Main.Cells.c, i64 a.S.Alt.W, i64 a.S.Alt.H, .slice a.S.Alt.Cells.A a.S.Alt.Cells.n a.S.Alt.Cells.c, .bool a.S.OnAlt, i64 a.S.X, i64 a.S.Y, .bool a.S.Wrap, i64 a.S.A.Fg, i64 a.S.A.Bg, .bool a.S.A.Bold, .bool a.S.A.Under, .bool a.S.A.Turn, i64 a.S.Top, i64 a.S.Bot, .bool a.S.NoWrap, .bool a.S.Hide, i64 a.S.SaveX, i64 a.S.SaveY, i64 a.S.SaveA.Fg, i64 a.S.SaveA.Bg, .bool a.S.SaveA.Bold, .bool a.S.SaveA.Under, .bool a.S.SaveA.Turn, .slice a.S.Tabs.A a.S.Tabs.n a.S.Tabs.c, i64 a.S.Limit, .slice a.S.Back.A a.S.Back.n a.S.Back.c]] w fun e w' => ∃ r L1, e = .returned (.agg #[i64 r.P.State, .bool r.P.Mark, .slice r.P.Args.A r.P.Args.n r.P.Args.c, .slice r.P.Part.A r.P.Part.n r.P.Part.c, i64 r.S.W, i64 r.S.H, i64 r.S.Main.W, i64 r.S.Main.H, .slice r.S.Main.Cells.A r.S.Main.Cells.n r.S.Main.Cells.c, i64 r.S.Alt.W, i64 r.S.Alt.H, .slice r.S.Alt.Cells.A r.S.Alt.Cells.n r.S.Alt.Cells.c, .bool r.S.OnAlt, i64 r.S.X, i64 r.S.Y, .bool r.S.Wrap, i64 r.S.A.Fg, i64 r.S.A.Bg, .bool r.S.A.Bold, .bool r.S.A.Under, .bool r.S.A.Turn, i64 r.S.Top, i64 r.S.Bot, .bool r.S.NoWrap, .bool r.S.Hide, i64 r.S.SaveX, i64 r.S.SaveY, i64 r.S.SaveA.Fg, i64 r.S.SaveA.Bg, .bool r.S.SaveA.Bold, .bool r.S.SaveA.Under, .bool r.S.SaveA.Turn, .slice r.S.Tabs.A r.S.Tabs.n r.S.Tabs.c, i64 r.S.Limit, .slice r.S.Back.A r.S.Back.n r.S.Back.c]) ∧ St w [] L1 w' ∧ ownTermR r L1 ∧ r.dat = a.dat := by
 have nb_a_P_Args := f_a.P.Args_n
 have nl_a_P_Args := f_a.P.Args.len
 have nb_a_P_Part := f_a.P.Part_n
 have nl_a_P_Part := f_a.P.Part.len
 have nb_a_S_Main_Cells := f_a.S.Main.Cells_n
 have nl_a_S_Main_Cells := f_a.S.Main.Cells.len
 have nb_a_S_Alt_Cells := f_a.S.Alt.Cells_n
 have nl_a_S_Alt_Cells := f_a.S.Alt.Cells.len
 have nb_a_S_Tabs := f_a.S.Tabs_n
 have nl_a_S_Tabs := f_a.S.Tabs.len
 have nb_a_S_Back := f_a.S.Back_n
 have nl_a_S_Back := f_a.S.Back.sl.len
 refine enter (vs := [.agg #[i64 a.P.State, .bool a.P.Mark, .slice a.P.Args.A a.P.Args.n a.P.Args.c, .slice a.P.Part.A a.P.Part.n a.P.Part.c, i64 a.S.W, i64 a.S.H, i64 a.S.Main.W, i64 a.S.Main.H, .slice a.S.Main.Cells.A a.S.Main.Cells.n a.S.Main.Cells.c, i64 a.S.Alt.W, i64 a.S.Alt.H, .slice a.S.Alt.Cells.A a.S.Alt.Cells.n a.S.Alt.Cells.c, .bool a.S.OnAlt, i64 a.S.X, i64 a.S.Y, .bool a.S.Wrap, i64 a.S.A.Fg, i64 a.S.A.Bg, .bool a.S.A.Bold, .bool a.S.A.Under, .bool a.S.A.Turn, i64 a.S.Top, i64 a.S.Bot, .bool a.S.NoWrap, .bool a.S.Hide, i64 a.S.SaveX, i64 a.S.SaveY, i64 a.S.SaveA.Fg, i64 a.S.SaveA.Bg, .bool a.S.SaveA.Bold, .bool a.S.SaveA.Under, .bool a.S.SaveA.Turn, .slice a.S.Tabs.A a.S.Tabs.n a.S.Tabs.c, i64 a.S.Limit, .slice a.S.Back.A a.S.Back.n a.S.Back.c]]) 13 Tryz.func14 rfl Tryz.ntmps14 rfl rfl ?_
 have hs1 := St.init w
 refine WC.sr ?_
 refine WL.bx hs1 rfl (fun b2 _ hs3 => ?_)
 refine WL.al hs3 Tryz.zeroValue46 rfl rfl (fun b4 _ hs5 => ?_)
 refine WL.nil ?_
 refine WC.sr ?_
 refine WL.al hs5 Tryz.zeroValue46 rfl rfl (fun b6 _ hs7 => ?_)
 refine WL.nil ?_
 refine WC.sr ?_
 refine WL.run tbk 2 hs7 [2] rfl ⟨rfl, trivial⟩ ?_
 refine WL.call rfl rfl rfl (Run.call Tryz.call57 rfl rfl rfl) (c_laws_toVp a.P _ (okVpR.st0 f_a.P hs7)) ?_
 rintro _ whs8 ⟨r9, L1_10, rfl, hs8, ho11, hd12⟩
 replace hs8 := hs7.callF hs8
 refine ⟨_, rfl, ?_⟩
 replace hs8 := St.back [_, _, _] hs8
 refine WL.run tbk 1 hs8 [] rfl trivial ?_
 refine WL.st tbk hs8 0 rfl rfl (fun _ hs13 => ?_)
 refine WL.nil ?_
 refine WC.sr ?_
 refine WL.run tbk 2 hs13 [2] rfl ⟨rfl, trivial⟩ ?_
 refine WL.call rfl rfl rfl (Run.call Tryz.call31 rfl rfl rfl) (c_laws_toScr a.S _ (okScrR.st0 f_a.S hs13)) ?_
 rintro _ whs14 ⟨r15, L1_16, rfl, hs14, ho17, hd18⟩
 replace hs14 := hs13.callF hs14
 refine ⟨_, rfl, ?_⟩
 replace hs14 := St.back [_, _, _] hs14
 refine WL.run tbk 1 hs14 [] rfl trivial ?_
 refine WL.st tbk hs14 0 rfl rfl (fun _ hs19 => ?_)
 refine WL.nil ?_
 refine WC.sr ?_
 refine WL.run tbk 1 hs19 [0] rfl ⟨rfl, trivial⟩ ?_
 refine WL.st tbk hs19 1 rfl rfl (fun _ hs20 => ?_)
 refine WL.nil ?_
 refine WC.ret ?_
 refine retV1 rfl (resV.cellA tbk hs20 1 rfl rfl rfl rfl) ?_
 obtain ⟨L21, L22, hs25, ho23, ho24⟩ := ownVpR.open_ (St.perm hs20 (L' := L1_10 ++ _) (perm_front (A := [_, _, _]) (perm_front (A := L1_16) (List.Perm.refl _)))) ho11
 have hs26 := (St.perm (St.perm (St.perm hs25 (L' := [_] ++ _) (perm_front (A := L21) (perm_front (A := L22) (perm_front (A := [_, _]) (List.Perm.refl _))))) (L' := [_] ++ _) (perm_front (A := [_]) (perm_front (A := L21) (perm_front (A := L22) (perm_front (A := [_]) (List.Perm.refl _)))))) (L' := [_] ++ _) (perm_front (A := [_, _]) (perm_front (A := L21) (perm_front (A := L22) (List.Perm.refl _)))))
 obtain ⟨L27, L28, L29, L30, hs35, ho31, ho32, ho33, ho34⟩ := ownScrR.open_ (St.perm hs26 (L' := L1_16 ++ _) (perm_front (A := [_, _, _]) (perm_front (A := L21) (perm_front (A := L22) (List.Perm.refl _))))) ho17
 have hs36 := (St.perm (St.perm (St.perm hs35 (L' := [_] ++ _) (perm_front (A := L27) (perm_front (A := L28) (perm_front (A := L29) (perm_front (A := L30) (perm_front (A := [_, _]) (List.Perm.refl _))))))) (L' := [_] ++ _) (perm_front (A := [_]) (perm_front (A := L27) (perm_front (A := L28) (perm_front (A := L29) (perm_front (A := L30) (perm_front (A := [_]) (List.Perm.refl _)))))))) (L' := [_] ++ _) (perm_front (A := [_, _]) (perm_front (A := L27) (perm_front (A := L28) (perm_front (A := L29) (perm_front (A := L30) (List.Perm.refl _)))))))
 obtain ⟨L38, hs37, ho39⟩ := ownTermR.fold ⟨⟨0, false, ⟨_, _, _, _⟩, ⟨_, _, _, _⟩⟩, ⟨0, 0, ⟨0, 0, ⟨_, _, _, _⟩⟩, ⟨0, 0, ⟨_, _, _, _⟩⟩, false, 0, 0, false, ⟨0, 0, false, false, false⟩, 0, 0, false, false, 0, 0, ⟨0, 0, false, false, false⟩, ⟨_, _, _, _⟩, 0, ⟨_, _, _, _⟩⟩⟩ (St.perm (St.perm (St.perm (St.perm (St.perm (St.perm hs36 (L' := L30 ++ _) (perm_front (A := [_, _, _]) (perm_front (A := L27) (perm_front (A := L28) (perm_front (A := L29) (List.Perm.refl _)))))) (L' := L29 ++ _) (perm_front (A := L30) (perm_front (A := [_, _, _]) (perm_front (A := L27) (perm_front (A := L28) (List.Perm.refl _)))))) (L' := L28 ++ _) (perm_front (A := L29) (perm_front (A := L30) (perm_front (A := [_, _, _]) (perm_front (A := L27) (List.Perm.refl _)))))) (L' := L27 ++ _) (perm_front (A := L28) (perm_front (A := L29) (perm_front (A := L30) (perm_front (A := [_, _, _]) (List.Perm.refl _)))))) (L' := L22 ++ _) (perm_front (A := L27) (perm_front (A := L28) (perm_front (A := L29) (perm_front (A := L30) (perm_front (A := [_, _, _]) (perm_front (A := L21) (List.Perm.refl _)))))))) (L' := L21 ++ _) (perm_front (A := L22) (perm_front (A := L27) (perm_front (A := L28) (perm_front (A := L29) (perm_front (A := L30) (perm_front (A := [_, _, _]) (List.Perm.refl _)))))))) ho23 ho24 ho31 ho32 ho33 ho34
 have hs40 := (St.perm (St.perm (St.perm hs37 (L' := [_] ++ _) (perm_front (A := L38) (perm_front (A := [_, _]) (List.Perm.refl _)))) (L' := [_] ++ _) (perm_front (A := [_]) (perm_front (A := L38) (perm_front (A := [_]) (List.Perm.refl _))))) (L' := [_] ++ _) (perm_front (A := [_, _]) (perm_front (A := L38) (List.Perm.refl _))))
 refine ⟨⟨⟨r9.State, r9.Mark, SlD.of ho23, SlD.of ho24⟩, ⟨r15.W, r15.H, ⟨r15.Main.W, r15.Main.H, SlD.of ho31⟩, ⟨r15.Alt.W, r15.Alt.H, SlD.of ho32⟩, r15.OnAlt, r15.X, r15.Y, r15.Wrap, ⟨r15.A.Fg, r15.A.Bg, r15.A.Bold, r15.A.Under, r15.A.Turn⟩, r15.Top, r15.Bot, r15.NoWrap, r15.Hide, r15.SaveX, r15.SaveY, ⟨r15.SaveA.Fg, r15.SaveA.Bg, r15.SaveA.Bold, r15.SaveA.Under, r15.SaveA.Turn⟩, SlD.of ho33, r15.Limit, SlD.ofN ho34⟩⟩, _, rfl, (St.keep1 (St.perm hs40 (L' := L38 ++ _) (perm_front (A := [_, _, _]) (List.Perm.refl _)))), ?_, ?_⟩
 · exact (by exact ho39)
 · exact TermD.ext' hd12 hd18
set_option maxHeartbeats 4000000 in
theorem c_laws_eqTerm (a : TermR) (b : TermR) (w : World) (f_a : okTermR 549755813888 w a) (f_b : okTermR 549755813888 w b) (hab : a.dat = b.dat) :
    Calls Tryz.prog 16 #[.agg #[i64 a.P.State, .bool a.P.Mark, .slice a.P.Args.A a.P.Args.n a.P.Args.c, .slice a.P.Part.A a.P.Part.n a.P.Part.c, i64 a.S.W, i64 a.S.H, i64 a.S.Main.W, i64 a.S.Main.H, .slice a.S.Main.Cells.A a.S.Main.Cells.n a.S.Main.Cells.c, i64 a.S.Alt.W, i64 a.S.Alt.H, .slice a.S.Alt.Cells.A a.S.Alt.Cells.n a.S.Alt.Cells.c, .bool a.S.OnAlt, i64 a.S.X, i64 a.S.Y, .bool a.S.Wrap, i64 a.S.A.Fg, i64 a.S.A.Bg, .bool a.S.A.Bold, .bool a.S.A.Under, .bool a.S.A.Turn, i64 a.S.Top, i64 a.S.Bot, .bool a.S.NoWrap, .bool a.S.Hide, i64 a.S.SaveX, i64 a.S.SaveY, i64 a.S.SaveA.Fg, i64 a.S.SaveA.Bg, .bool a.S.SaveA.Bold, .bool a.S.SaveA.Under, .bool a.S.SaveA.Turn, .slice a.S.Tabs.A a.S.Tabs.n a.S.Tabs.c, i64 a.S.Limit, .slice a.S.Back.A a.S.Back.n a.S.Back.c], .agg #[i64 b.P.State, .bool b.P.Mark, .slice b.P.Args.A b.P.Args.n b.P.Args.c, .slice b.P.Part.A b.P.Part.n b.P.Part.c, i64 b.S.W, i64 b.S.H, i64 b.S.Main.W, i64 b.S.Main.H, .slice b.S.Main.Cells.A b.S.Main.Cells.n b.S.Main.Cells.c, i64 b.S.Alt.W, i64 b.S.Alt.H, .slice b.S.Alt.Cells.A b.S.Alt.Cells.n b.S.Alt.Cells.c, .bool b.S.OnAlt, i64 b.S.X, i64 b.S.Y, .bool b.S.Wrap, i64 b.S.A.Fg, i64 b.S.A.Bg, .bool b.S.A.Bold, .bool b.S.A.Under, .bool b.S.A.Turn, i64 b.S.Top, i64 b.S.Bot, .bool b.S.NoWrap, .bool b.S.Hide, i64 b.S.SaveX, i64 b.S.SaveY, i64 b.S.SaveA.Fg, i64 b.S.SaveA.Bg, .bool b.S.SaveA.Bold, .bool b.S.SaveA.Under, .bool b.S.SaveA.Turn, .slice b.S.Tabs.A b.S.Tabs.n b.S.Tabs.c, i64 b.S.Limit, .slice b.S.Back.A b.S.Back.n b.S.Back.c]] w fun e w' => e = .returned (.bool true) ∧ St w [] [] w' := by
 have nb_a_P_Args := f_a.P.Args_n
 have nl_a_P_Args := f_a.P.Args.len
 have nb_a_P_Part := f_a.P.Part_n
 have nl_a_P_Part := f_a.P.Part.len
 have nb_a_S_Main_Cells := f_a.S.Main.Cells_n
 have nl_a_S_Main_Cells := f_a.S.Main.Cells.len
 have nb_a_S_Alt_Cells := f_a.S.Alt.Cells_n
 have nl_a_S_Alt_Cells := f_a.S.Alt.Cells.len
 have nb_a_S_Tabs := f_a.S.Tabs_n
 have nl_a_S_Tabs := f_a.S.Tabs.len
 have nb_a_S_Back := f_a.S.Back_n
 have nl_a_S_Back := f_a.S.Back.sl.len
 have nb_b_P_Args := f_b.P.Args_n
 have nl_b_P_Args := f_b.P.Args.len
 have nb_b_P_Part := f_b.P.Part_n
 have nl_b_P_Part := f_b.P.Part.len
 have nb_b_S_Main_Cells := f_b.S.Main.Cells_n
 have nl_b_S_Main_Cells := f_b.S.Main.Cells.len
 have nb_b_S_Alt_Cells := f_b.S.Alt.Cells_n
 have nl_b_S_Alt_Cells := f_b.S.Alt.Cells.len
 have nb_b_S_Tabs := f_b.S.Tabs_n
 have nl_b_S_Tabs := f_b.S.Tabs.len
 have nb_b_S_Back := f_b.S.Back_n
 have nl_b_S_Back := f_b.S.Back.sl.len
 have e_P : a.P.dat = b.P.dat := congrArg (fun d : TermD => d.P) hab
 have e_P_State : a.P.State = b.P.State := congrArg (fun d : TermD => d.P.State) hab
 have e_P_Mark : a.P.Mark = b.P.Mark := congrArg (fun d : TermD => d.P.Mark) hab
 have e_P_Args : a.P.Args.xs = b.P.Args.xs := congrArg (fun d : TermD => d.P.Args) hab
 have e_P_Part : a.P.Part.xs = b.P.Part.xs := congrArg (fun d : TermD => d.P.Part) hab
 have e_S : a.S.dat = b.S.dat := congrArg (fun d : TermD => d.S) hab
 have e_S_W : a.S.W = b.S.W := congrArg (fun d : TermD => d.S.W) hab
 have e_S_H : a.S.H = b.S.H := congrArg (fun d : TermD => d.S.H) hab
 have e_S_Main : a.S.Main.dat = b.S.Main.dat := congrArg (fun d : TermD => d.S.Main) hab
 have e_S_Main_W : a.S.Main.W = b.S.Main.W := congrArg (fun d : TermD => d.S.Main.W) hab
 have e_S_Main_H : a.S.Main.H = b.S.Main.H := congrArg (fun d : TermD => d.S.Main.H) hab
 have e_S_Main_Cells : a.S.Main.Cells.xs = b.S.Main.Cells.xs := congrArg (fun d : TermD => d.S.Main.Cells) hab
 have e_S_Alt : a.S.Alt.dat = b.S.Alt.dat := congrArg (fun d : TermD => d.S.Alt) hab
 have e_S_Alt_W : a.S.Alt.W = b.S.Alt.W := congrArg (fun d : TermD => d.S.Alt.W) hab
 have e_S_Alt_H : a.S.Alt.H = b.S.Alt.H := congrArg (fun d : TermD => d.S.Alt.H) hab
 have e_S_Alt_Cells : a.S.Alt.Cells.xs = b.S.Alt.Cells.xs := congrArg (fun d : TermD => d.S.Alt.Cells) hab
 have e_S_OnAlt : a.S.OnAlt = b.S.OnAlt := congrArg (fun d : TermD => d.S.OnAlt) hab
 have e_S_X : a.S.X = b.S.X := congrArg (fun d : TermD => d.S.X) hab
 have e_S_Y : a.S.Y = b.S.Y := congrArg (fun d : TermD => d.S.Y) hab
 have e_S_Wrap : a.S.Wrap = b.S.Wrap := congrArg (fun d : TermD => d.S.Wrap) hab
 have e_S_A : a.S.A = b.S.A := congrArg (fun d : TermD => d.S.A) hab
 have e_S_A_Fg : a.S.A.Fg = b.S.A.Fg := congrArg (fun d : TermD => d.S.A.Fg) hab
 have e_S_A_Bg : a.S.A.Bg = b.S.A.Bg := congrArg (fun d : TermD => d.S.A.Bg) hab
 have e_S_A_Bold : a.S.A.Bold = b.S.A.Bold := congrArg (fun d : TermD => d.S.A.Bold) hab
 have e_S_A_Under : a.S.A.Under = b.S.A.Under := congrArg (fun d : TermD => d.S.A.Under) hab
 have e_S_A_Turn : a.S.A.Turn = b.S.A.Turn := congrArg (fun d : TermD => d.S.A.Turn) hab
 have e_S_Top : a.S.Top = b.S.Top := congrArg (fun d : TermD => d.S.Top) hab
 have e_S_Bot : a.S.Bot = b.S.Bot := congrArg (fun d : TermD => d.S.Bot) hab
 have e_S_NoWrap : a.S.NoWrap = b.S.NoWrap := congrArg (fun d : TermD => d.S.NoWrap) hab
 have e_S_Hide : a.S.Hide = b.S.Hide := congrArg (fun d : TermD => d.S.Hide) hab
 have e_S_SaveX : a.S.SaveX = b.S.SaveX := congrArg (fun d : TermD => d.S.SaveX) hab
 have e_S_SaveY : a.S.SaveY = b.S.SaveY := congrArg (fun d : TermD => d.S.SaveY) hab
 have e_S_SaveA : a.S.SaveA = b.S.SaveA := congrArg (fun d : TermD => d.S.SaveA) hab
 have e_S_SaveA_Fg : a.S.SaveA.Fg = b.S.SaveA.Fg := congrArg (fun d : TermD => d.S.SaveA.Fg) hab
 have e_S_SaveA_Bg : a.S.SaveA.Bg = b.S.SaveA.Bg := congrArg (fun d : TermD => d.S.SaveA.Bg) hab
 have e_S_SaveA_Bold : a.S.SaveA.Bold = b.S.SaveA.Bold := congrArg (fun d : TermD => d.S.SaveA.Bold) hab
 have e_S_SaveA_Under : a.S.SaveA.Under = b.S.SaveA.Under := congrArg (fun d : TermD => d.S.SaveA.Under) hab
 have e_S_SaveA_Turn : a.S.SaveA.Turn = b.S.SaveA.Turn := congrArg (fun d : TermD => d.S.SaveA.Turn) hab
 have e_S_Tabs : a.S.Tabs.xs = b.S.Tabs.xs := congrArg (fun d : TermD => d.S.Tabs) hab
 have e_S_Limit : a.S.Limit = b.S.Limit := congrArg (fun d : TermD => d.S.Limit) hab
 have e_S_Back : a.S.Back.xs.map RowR.dat = b.S.Back.xs.map RowR.dat := congrArg (fun d : TermD => d.S.Back) hab
 refine enter (vs := [.agg #[i64 a.P.State, .bool a.P.Mark, .slice a.P.Args.A a.P.Args.n a.P.Args.c, .slice a.P.Part.A a.P.Part.n a.P.Part.c, i64 a.S.W, i64 a.S.H, i64 a.S.Main.W, i64 a.S.Main.H, .slice a.S.Main.Cells.A a.S.Main.Cells.n a.S.Main.Cells.c, i64 a.S.Alt.W, i64 a.S.Alt.H, .slice a.S.Alt.Cells.A a.S.Alt.Cells.n a.S.Alt.Cells.c, .bool a.S.OnAlt, i64 a.S.X, i64 a.S.Y, .bool a.S.Wrap, i64 a.S.A.Fg, i64 a.S.A.Bg, .bool a.S.A.Bold, .bool a.S.A.Under, .bool a.S.A.Turn, i64 a.S.Top, i64 a.S.Bot, .bool a.S.NoWrap, .bool a.S.Hide, i64 a.S.SaveX, i64 a.S.SaveY, i64 a.S.SaveA.Fg, i64 a.S.SaveA.Bg, .bool a.S.SaveA.Bold, .bool a.S.SaveA.Under, .bool a.S.SaveA.Turn, .slice a.S.Tabs.A a.S.Tabs.n a.S.Tabs.c, i64 a.S.Limit, .slice a.S.Back.A a.S.Back.n a.S.Back.c], .agg #[i64 b.P.State, .bool b.P.Mark, .slice b.P.Args.A b.P.Args.n b.P.Args.c, .slice b.P.Part.A b.P.Part.n b.P.Part.c, i64 b.S.W, i64 b.S.H, i64 b.S.Main.W, i64 b.S.Main.H, .slice b.S.Main.Cells.A b.S.Main.Cells.n b.S.Main.Cells.c, i64 b.S.Alt.W, i64 b.S.Alt.H, .slice b.S.Alt.Cells.A b.S.Alt.Cells.n b.S.Alt.Cells.c, .bool b.S.OnAlt, i64 b.S.X, i64 b.S.Y, .bool b.S.Wrap, i64 b.S.A.Fg, i64 b.S.A.Bg, .bool b.S.A.Bold, .bool b.S.A.Under, .bool b.S.A.Turn, i64 b.S.Top, i64 b.S.Bot, .bool b.S.NoWrap, .bool b.S.Hide, i64 b.S.SaveX, i64 b.S.SaveY, i64 b.S.SaveA.Fg, i64 b.S.SaveA.Bg, .bool b.S.SaveA.Bold, .bool b.S.SaveA.Under, .bool b.S.SaveA.Turn, .slice b.S.Tabs.A b.S.Tabs.n b.S.Tabs.c, i64 b.S.Limit, .slice b.S.Back.A b.S.Back.n b.S.Back.c]]) 17 Tryz.func16 rfl Tryz.ntmps16 rfl rfl ?_
 have hs1 := St.init w
 refine WC.sr ?_
 refine WL.bx hs1 rfl (fun b2 _ hs3 => ?_)
 refine WL.bx hs3 rfl (fun b4 _ hs5 => ?_)
 refine WL.run tbk 1 hs5 [] rfl trivial ?_
 refine WL.nil ?_
 refine WC.seq (fun K6 hK6 => ?_)
 refine WC.sr ?_
 refine WL.run tbk 4 hs5 [1, 0] rfl ⟨rfl, rfl, trivial⟩ ?_
 refine WL.call rfl rfl rfl (Run.call Tryz.call62 rfl rfl rfl) (c_laws_eqVp a.P b.P _ (okVpR.st0 f_a.P hs5) (okVpR.st0 f_b.P hs5) ?_) ?_
 · first | assumption | rfl | omega
 rintro _ whs7 ⟨rfl, hs7⟩
 replace hs7 := hs5.call0 hs7
 refine ⟨_, rfl, ?_⟩
 refine WL.run tbk 1 hs7 [] rfl trivial ?_
 refine WL.nil ?_
 refine WC.condF rfl (by simp [e_P_State, e_P_Mark, e_S_W, e_S_H, e_S_Main_W, e_S_Main_H, e_S_Alt_W, e_S_Alt_H, e_S_OnAlt, e_S_X, e_S_Y, e_S_Wrap, e_S_A_Fg, e_S_A_Bg, e_S_A_Bold, e_S_A_Under, e_S_A_Turn, e_S_Top, e_S_Bot, e_S_NoWrap, e_S_Hide, e_S_SaveX, e_S_SaveY, e_S_SaveA_Fg, e_S_SaveA_Bg, e_S_SaveA_Bold, e_S_SaveA_Under, e_S_SaveA_Turn, e_S_Limit]) ?_
 refine WC.skip ?_
 refine hK6 _ _ ?_
 refine WC.seq (fun K9 hK9 => ?_)
 refine WC.sr ?_
 refine WL.run tbk 4 hs7 [1, 0] rfl ⟨rfl, rfl, trivial⟩ ?_
 refine WL.call rfl rfl rfl (Run.call Tryz.call33 rfl rfl rfl) (c_laws_eqScr a.S b.S _ (okScrR.st0 f_a.S hs7) (okScrR.st0 f_b.S hs7) ?_) ?_
 · first | assumption | rfl | omega
 rintro _ whs10 ⟨rfl, hs10⟩
 replace hs10 := hs7.call0 hs10
 refine ⟨_, rfl, ?_⟩
 refine WL.run tbk 1 hs10 [] rfl trivial ?_
 refine WL.nil ?_
 refine WC.condF rfl (by simp [e_P_State, e_P_Mark, e_S_W, e_S_H, e_S_Main_W, e_S_Main_H, e_S_Alt_W, e_S_Alt_H, e_S_OnAlt, e_S_X, e_S_Y, e_S_Wrap, e_S_A_Fg, e_S_A_Bg, e_S_A_Bold, e_S_A_Under, e_S_A_Turn, e_S_Top, e_S_Bot, e_S_NoWrap, e_S_Hide, e_S_SaveX, e_S_SaveY, e_S_SaveA_Fg, e_S_SaveA_Bg, e_S_SaveA_Bold, e_S_SaveA_Under, e_S_SaveA_Turn, e_S_Limit]) ?_
 refine WC.skip ?_
 refine hK9 _ _ ?_
 refine WC.rr tbk hs10 [] rfl trivial ?_
 refine WC.ret ?_
 refine retV1 rfl (resV.tmp rfl) ?_
 refine ⟨congrArg Ending.returned ?_, hs10.nil⟩
 rfl
set_option maxHeartbeats 4000000 in
theorem c_laws_szTerm (a : TermR) (left : Int) (w : World) (f_a : okTermR 9223372036854775807 w a) (h1 : 0 ≤ left) (h2 : left ≤ 1048576) :
    Calls Tryz.prog 12 #[.agg #[i64 a.P.State, .bool a.P.Mark, .slice a.P.Args.A a.P.Args.n a.P.Args.c, .slice a.P.Part.A a.P.Part.n a.P.Part.c, i64 a.S.W, i64 a.S.H, i64 a.S.Main.W, i64 a.S.Main.H, .slice a.S.Main.Cells.A a.S.Main.Cells.n a.S.Main.Cells.c, i64 a.S.Alt.W, i64 a.S.Alt.H, .slice a.S.Alt.Cells.A a.S.Alt.Cells.n a.S.Alt.Cells.c, .bool a.S.OnAlt, i64 a.S.X, i64 a.S.Y, .bool a.S.Wrap, i64 a.S.A.Fg, i64 a.S.A.Bg, .bool a.S.A.Bold, .bool a.S.A.Under, .bool a.S.A.Turn, i64 a.S.Top, i64 a.S.Bot, .bool a.S.NoWrap, .bool a.S.Hide, i64 a.S.SaveX, i64 a.S.SaveY, i64 a.S.SaveA.Fg, i64 a.S.SaveA.Bg, .bool a.S.SaveA.Bold, .bool a.S.SaveA.Under, .bool a.S.SaveA.Turn, .slice a.S.Tabs.A a.S.Tabs.n a.S.Tabs.c, i64 a.S.Limit, .slice a.S.Back.A a.S.Back.n a.S.Back.c], i64 left] w fun e w' => e = .returned (.int .i64 (szR left (totTerm a.dat))) ∧ St w [] [] w' := by
 have nb_a_P_Args := f_a.P.Args_n
 have nl_a_P_Args := f_a.P.Args.len
 have nb_a_P_Part := f_a.P.Part_n
 have nl_a_P_Part := f_a.P.Part.len
 have nb_a_S_Main_Cells := f_a.S.Main.Cells_n
 have nl_a_S_Main_Cells := f_a.S.Main.Cells.len
 have nb_a_S_Alt_Cells := f_a.S.Alt.Cells_n
 have nl_a_S_Alt_Cells := f_a.S.Alt.Cells.len
 have nb_a_S_Tabs := f_a.S.Tabs_n
 have nl_a_S_Tabs := f_a.S.Tabs.len
 have nb_a_S_Back := f_a.S.Back_n
 have nl_a_S_Back := f_a.S.Back.sl.len
 refine enter (vs := [.agg #[i64 a.P.State, .bool a.P.Mark, .slice a.P.Args.A a.P.Args.n a.P.Args.c, .slice a.P.Part.A a.P.Part.n a.P.Part.c, i64 a.S.W, i64 a.S.H, i64 a.S.Main.W, i64 a.S.Main.H, .slice a.S.Main.Cells.A a.S.Main.Cells.n a.S.Main.Cells.c, i64 a.S.Alt.W, i64 a.S.Alt.H, .slice a.S.Alt.Cells.A a.S.Alt.Cells.n a.S.Alt.Cells.c, .bool a.S.OnAlt, i64 a.S.X, i64 a.S.Y, .bool a.S.Wrap, i64 a.S.A.Fg, i64 a.S.A.Bg, .bool a.S.A.Bold, .bool a.S.A.Under, .bool a.S.A.Turn, i64 a.S.Top, i64 a.S.Bot, .bool a.S.NoWrap, .bool a.S.Hide, i64 a.S.SaveX, i64 a.S.SaveY, i64 a.S.SaveA.Fg, i64 a.S.SaveA.Bg, .bool a.S.SaveA.Bold, .bool a.S.SaveA.Under, .bool a.S.SaveA.Turn, .slice a.S.Tabs.A a.S.Tabs.n a.S.Tabs.c, i64 a.S.Limit, .slice a.S.Back.A a.S.Back.n a.S.Back.c], i64 left]) 18 Tryz.func12 rfl Tryz.ntmps12 rfl rfl ?_
 have hs1 := St.init w
 refine WC.sr ?_
 refine WL.bx hs1 rfl (fun b2 _ hs3 => ?_)
 refine WL.run tbk 1 hs3 [] rfl trivial ?_
 refine WL.nil ?_
 refine WC.sr ?_
 refine WL.run tbk 3 hs3 [0] rfl ⟨rfl, trivial⟩ ?_
 refine WL.call rfl rfl rfl (Run.call Tryz.call53 rfl rfl rfl) (c_laws_szVp a.P _ _ (okVpR.st0 f_a.P hs3) ?_ ?_) ?_
 · first | assumption | omega
 · first | assumption | omega | exact szR_b (by assumption) (by omega) (by first | assumption | omega)
 rintro _ whs4 ⟨rfl, hs4⟩
 replace hs4 := hs3.call0 hs4
 refine ⟨_, rfl, ?_⟩
 refine WL.run tbk 1 hs4 [] rfl trivial ?_
 refine WL.nil ?_
 refine WC.seq (fun K5 hK5 => ?_)
 refine WC.rr tbk hs4 [] rfl trivial ?_
 refine WC.cD rfl (fun qh6 => ?_) (fun qh6 => ?_)
 ·try have soh6 := szR_ok qh6 (by omega)
  try have sbh6 := szR_b qh6 (by omega) (by first | assumption | omega)
  try have snh6 := szR_no qh6
  refine WC.rr tbk hs4 [] rfl trivial ?_
  refine WC.ret ?_
  refine tkR ?_
  clear hK5
  refine retV1 rfl (resV.tmp rfl) ?_
  refine ⟨congrArg Ending.returned ?_, hs4.nil⟩
  simp only [totGrid, totScr, totTerm, totVp, GridR.dat, ScrR.dat, TermR.dat, VpR.dat] at *; first | (rw [szR_lt (by omega)]; done) | (refine congrArg (Value.int _) ?_; symm; refine (szR_le ?_).trans ?_ <;> omega) | rfl
 ·try have soh6 := szR_ok qh6 (by omega)
  try have sbh6 := szR_b qh6 (by omega) (by first | assumption | omega)
  try have snh6 := szR_no qh6
  refine WC.skip ?_
  refine hK5 _ _ ?_
  refine WC.sr ?_
  refine WL.run tbk 3 hs4 [0] rfl ⟨rfl, trivial⟩ ?_
  refine WL.call rfl rfl rfl (Run.call Tryz.call29 rfl rfl rfl) (c_laws_szScr a.S _ _ (okScrR.st0 f_a.S hs4) ?_ ?_) ?_
  · first | assumption | omega
  · first | assumption | omega | exact szR_b (by assumption) (by omega) (by first | assumption | omega)
  rintro _ whs7 ⟨rfl, hs7⟩
  replace hs7 := hs4.call0 hs7
  refine ⟨_, rfl, ?_⟩
  refine WL.run tbk 1 hs7 [] rfl trivial ?_
  refine WL.nil ?_
  refine WC.seq (fun K8 hK8 => ?_)
  refine WC.rr tbk hs7 [] rfl trivial ?_
  refine WC.cD rfl (fun qh9 => ?_) (fun qh9 => ?_)
  ·try have soh9 := szR_ok qh9 (by omega)
   try have sbh9 := szR_b qh9 (by omega) (by first | assumption | omega)
   try have snh9 := szR_no qh9
   refine WC.rr tbk hs7 [] rfl trivial ?_
   refine WC.ret ?_
   refine tkR ?_
   clear hK8
   refine retV1 rfl (resV.tmp rfl) ?_
   refine ⟨congrArg Ending.returned ?_, hs7.nil⟩
   simp only [totGrid, totScr, totTerm, totVp, GridR.dat, ScrR.dat, TermR.dat, VpR.dat] at *; first | (rw [szR_lt (by omega)]; done) | (refine congrArg (Value.int _) ?_; symm; refine (szR_le ?_).trans ?_ <;> omega) | rfl
  ·try have soh9 := szR_ok qh9 (by omega)
   try have sbh9 := szR_b qh9 (by omega) (by first | assumption | omega)
   try have snh9 := szR_no qh9
   refine WC.skip ?_
   refine hK8 _ _ ?_
   refine WC.rr tbk hs7 [] rfl trivial ?_
   refine WC.ret ?_
   refine retV1 rfl (resV.tmp rfl) ?_
   refine ⟨congrArg Ending.returned ?_, hs7.nil⟩
   simp only [totGrid, totScr, totTerm, totVp, GridR.dat, ScrR.dat, TermR.dat, VpR.dat] at *; first | (rw [szR_lt (by omega)]; done) | (refine congrArg (Value.int _) ?_; symm; refine (szR_le ?_).trans ?_ <;> omega) | rfl
set_option maxHeartbeats 4000000 in
theorem c_laws_markTerm (a : TermR) (L_a : Hp) (k : Int) (w : World) (o_a : ownTermR a L_a) (h_a : ∀ p, p ∈ L_a → w.heap[p.1]? = some p.2) (hd_ : ((L_a).map (·.1)).Nodup) (h1 : 0 ≤ k) (h2 : endTerm k a ≤ 549755813888) (hb_S_Back : a.S.Back.xs.length ≤ 549755813888) :
    Calls Tryz.prog 17 #[.agg #[i64 a.P.State, .bool a.P.Mark, .slice a.P.Args.A a.P.Args.n a.P.Args.c, .slice a.P.Part.A a.P.Part.n a.P.Part.c, i64 a.S.W, i64 a.S.H, i64 a.S.Main.W, i64 a.S.Main.H, .slice a.S.Main.Cells.A a.S.Main.Cells.n a.S.Main.Cells.c, i64 a.S.Alt.W, i64 a.S.Alt.H, .slice a.S.Alt.Cells.A a.S.Alt.Cells.n a.S.Alt.Cells.c, .bool a.S.OnAlt, i64 a.S.X, i64 a.S.Y, .bool a.S.Wrap, i64 a.S.A.Fg, i64 a.S.A.Bg, .bool a.S.A.Bold, .bool a.S.A.Under, .bool a.S.A.Turn, i64 a.S.Top, i64 a.S.Bot, .bool a.S.NoWrap, .bool a.S.Hide, i64 a.S.SaveX, i64 a.S.SaveY, i64 a.S.SaveA.Fg, i64 a.S.SaveA.Bg, .bool a.S.SaveA.Bold, .bool a.S.SaveA.Under, .bool a.S.SaveA.Turn, .slice a.S.Tabs.A a.S.Tabs.n a.S.Tabs.c, i64 a.S.Limit, .slice a.S.Back.A a.S.Back.n a.S.Back.c], i64 k] w fun e w' => ∃ L1, e = .returned (.int .i64 (endTerm k a)) ∧ St w (L_a.map (·.1)) L1 w' ∧ ownTermR (markTerm k a) L1 := by
 have hq2 := h2
 simp only [endGrid, endScr, endTerm, endVp] at hq2
 have hcn_S_Back := cnts_nonneg (c := cntERow) (fun x => by simp only [cntERow]; omega) a.S.Back.xs
 refine enter (vs := [.agg #[i64 a.P.State, .bool a.P.Mark, .slice a.P.Args.A a.P.Args.n a.P.Args.c, .slice a.P.Part.A a.P.Part.n a.P.Part.c, i64 a.S.W, i64 a.S.H, i64 a.S.Main.W, i64 a.S.Main.H, .slice a.S.Main.Cells.A a.S.Main.Cells.n a.S.Main.Cells.c, i64 a.S.Alt.W, i64 a.S.Alt.H, .slice a.S.Alt.Cells.A a.S.Alt.Cells.n a.S.Alt.Cells.c, .bool a.S.OnAlt, i64 a.S.X, i64 a.S.Y, .bool a.S.Wrap, i64 a.S.A.Fg, i64 a.S.A.Bg, .bool a.S.A.Bold, .bool a.S.A.Under, .bool a.S.A.Turn, i64 a.S.Top, i64 a.S.Bot, .bool a.S.NoWrap, .bool a.S.Hide, i64 a.S.SaveX, i64 a.S.SaveY, i64 a.S.SaveA.Fg, i64 a.S.SaveA.Bg, .bool a.S.SaveA.Bold, .bool a.S.SaveA.Under, .bool a.S.SaveA.Turn, .slice a.S.Tabs.A a.S.Tabs.n a.S.Tabs.c, i64 a.S.Limit, .slice a.S.Back.A a.S.Back.n a.S.Back.c], i64 k]) 14 Tryz.func17 rfl Tryz.ntmps17 rfl rfl ?_
 have hs1 := St.takes1 w L_a h_a hd_
 refine WC.sr ?_
 refine WL.bx hs1 rfl (fun b2 _ hs3 => ?_)
 refine WL.run tbk 1 hs3 [] rfl trivial ?_
 refine WL.nil ?_
 refine WC.sr ?_
 refine WL.run tbk 3 hs3 [0] rfl ⟨rfl, trivial⟩ ?_
 obtain ⟨L4, L5, L6, L7, L8, L9, hs16, ho10, ho11, ho12, ho13, ho14, ho15⟩ := ownTermR.open_ (St.perm hs3 (L' := L_a ++ _) (perm_front (A := [_]) (List.Perm.refl _))) o_a
 have hs17 := (St.perm hs16 (L' := [_] ++ _) (perm_front (A := L4) (perm_front (A := L5) (perm_front (A := L6) (perm_front (A := L7) (perm_front (A := L8) (perm_front (A := L9) (List.Perm.refl _))))))))
 obtain ⟨L19, hs18, ho20⟩ := ownVpR.fold ⟨0, false, ⟨_, _, _, _⟩, ⟨_, _, _, _⟩⟩ (St.perm (St.perm hs17 (L' := L5 ++ _) (perm_front (A := [_]) (perm_front (A := L4) (List.Perm.refl _)))) (L' := L4 ++ _) (perm_front (A := L5) (perm_front (A := [_]) (List.Perm.refl _)))) ho10 ho11
 have hs21 := (St.perm hs18 (L' := [_] ++ _) (perm_front (A := L19) (List.Perm.refl _)))
 refine WL.call rfl rfl rfl (Run.call Tryz.call63 rfl rfl rfl) (c_laws_markVp ⟨a.P.State, a.P.Mark, SlD.of ho10, SlD.of ho11⟩ _ _ _ (by exact ho20) (fun p_ hp_ => (hs21.own p_ (List.mem_append_right [_] (List.mem_append_left _ hp_))).1) (St.nodupL (St.perm hs21 (L' := L19 ++ _) (perm_front (A := [_]) (List.Perm.refl _)))) ?_ ?_) ?_
 · first | (first | assumption | omega) | (simp only [endGrid, endScr, endTerm, endVp]; omega)
 · first | (first | assumption | omega | (simp only [endVp]; omega)) | (simp only [endGrid, endScr, endTerm, endVp]; omega)
 rintro _ whs22 ⟨L1_23, rfl, hs22, ho24⟩
 replace hs22 := St.lend (St.perm hs21 (L' := L19 ++ _) (perm_front (A := [_]) (List.Perm.refl _))) hs22
 refine ⟨_, rfl, ?_⟩
 replace hs22 := St.back [_] hs22
 refine WL.run tbk 1 hs22 [] rfl trivial ?_
 refine WL.nil ?_
 refine WC.sr ?_
 refine WL.run tbk 3 hs22 [0] rfl ⟨rfl, trivial⟩ ?_
 obtain ⟨L26, hs25, ho27⟩ := ownScrR.fold ⟨0, 0, ⟨0, 0, ⟨_, _, _, _⟩⟩, ⟨0, 0, ⟨_, _, _, _⟩⟩, false, 0, 0, false, ⟨0, 0, false, false, false⟩, 0, 0, false, false, 0, 0, ⟨0, 0, false, false, false⟩, ⟨_, _, _, _⟩, 0, ⟨_, _, _, _⟩⟩ (St.perm (St.perm (St.perm (St.perm hs22 (L' := L9 ++ _) (perm_front (A := [_]) (perm_front (A := L1_23) (perm_front (A := L6) (perm_front (A := L7) (perm_front (A := L8) (List.Perm.refl _))))))) (L' := L8 ++ _) (perm_front (A := L9) (perm_front (A := [_]) (perm_front (A := L1_23) (perm_front (A := L6) (perm_front (A := L7) (List.Perm.refl _))))))) (L' := L7 ++ _) (perm_front (A := L8) (perm_front (A := L9) (perm_front (A := [_]) (perm_front (A := L1_23) (perm_front (A := L6) (List.Perm.refl _))))))) (L' := L6 ++ _) (perm_front (A := L7) (perm_front (A := L8) (perm_front (A := L9) (perm_front (A := [_]) (perm_front (A := L1_23) (List.Perm.refl _))))))) ho12 ho13 ho14 ho15
 have hs28 := (St.perm hs25 (L' := [_] ++ _) (perm_front (A := L26) (List.Perm.refl _)))
 refine WL.call rfl rfl rfl (Run.call Tryz.call34 rfl rfl rfl) (c_laws_markScr ⟨a.S.W, a.S.H, ⟨a.S.Main.W, a.S.Main.H, SlD.of ho12⟩, ⟨a.S.Alt.W, a.S.Alt.H, SlD.of ho13⟩, a.S.OnAlt, a.S.X, a.S.Y, a.S.Wrap, ⟨a.S.A.Fg, a.S.A.Bg, a.S.A.Bold, a.S.A.Under, a.S.A.Turn⟩, a.S.Top, a.S.Bot, a.S.NoWrap, a.S.Hide, a.S.SaveX, a.S.SaveY, ⟨a.S.SaveA.Fg, a.S.SaveA.Bg, a.S.SaveA.Bold, a.S.SaveA.Under, a.S.SaveA.Turn⟩, SlD.of ho14, a.S.Limit, SlD.ofN ho15⟩ _ _ _ (by exact ho27) (fun p_ hp_ => (hs28.own p_ (List.mem_append_right [_] (List.mem_append_left _ hp_))).1) (St.nodupL (St.perm hs28 (L' := L26 ++ _) (perm_front (A := [_]) (List.Perm.refl _)))) ?_ ?_ ?_) ?_
 · first | (first | assumption | omega) | (simp only [endGrid, endScr, endTerm, endVp]; omega)
 · first | (first | assumption | omega | (simp only [endGrid, endScr]; omega)) | (simp only [endGrid, endScr, endTerm, endVp]; omega)
 · first | (first | assumption | omega) | (simp only [endGrid, endScr, endTerm, endVp]; omega)
 rintro _ whs29 ⟨L1_30, rfl, hs29, ho31⟩
 replace hs29 := St.lend (St.perm hs28 (L' := L26 ++ _) (perm_front (A := [_]) (List.Perm.refl _))) hs29
 refine ⟨_, rfl, ?_⟩
 replace hs29 := St.back [_] hs29
 refine WL.run tbk 1 hs29 [] rfl trivial ?_
 refine WL.nil ?_
 refine WC.rr tbk hs29 [] rfl trivial ?_
 refine WC.ret ?_
 refine retV1 rfl (resV.tmp rfl) ?_
 obtain ⟨L32, L33, hs36, ho34, ho35⟩ := ownVpR.open_ (St.perm hs29 (L' := L1_23 ++ _) (perm_front (A := [_]) (perm_front (A := L1_30) (List.Perm.refl _)))) ho24
 have hs37 := (St.perm hs36 (L' := [_] ++ _) (perm_front (A := L32) (perm_front (A := L33) (List.Perm.refl _))))
 obtain ⟨L38, L39, L40, L41, hs46, ho42, ho43, ho44, ho45⟩ := ownScrR.open_ (St.perm hs37 (L' := L1_30 ++ _) (perm_front (A := [_]) (perm_front (A := L32) (perm_front (A := L33) (List.Perm.refl _))))) ho31
 have hs47 := (St.perm hs46 (L' := [_] ++ _) (perm_front (A := L38) (perm_front (A := L39) (perm_front (A := L40) (perm_front (A := L41) (List.Perm.refl _))))))
 obtain ⟨L49, hs48, ho50⟩ := ownTermR.fold ⟨⟨0, false, ⟨_, _, _, _⟩, ⟨_, _, _, _⟩⟩, ⟨0, 0, ⟨0, 0, ⟨_, _, _, _⟩⟩, ⟨0, 0, ⟨_, _, _, _⟩⟩, false, 0, 0, false, ⟨0, 0, false, false, false⟩, 0, 0, false, false, 0, 0, ⟨0, 0, false, false, false⟩, ⟨_, _, _, _⟩, 0, ⟨_, _, _, _⟩⟩⟩ (St.perm (St.perm (St.perm (St.perm (St.perm (St.perm hs47 (L' := L41 ++ _) (perm_front (A := [_]) (perm_front (A := L38) (perm_front (A := L39) (perm_front (A := L40) (List.Perm.refl _)))))) (L' := L40 ++ _) (perm_front (A := L41) (perm_front (A := [_]) (perm_front (A := L38) (perm_front (A := L39) (List.Perm.refl _)))))) (L' := L39 ++ _) (perm_front (A := L40) (perm_front (A := L41) (perm_front (A := [_]) (perm_front (A := L38) (List.Perm.refl _)))))) (L' := L38 ++ _) (perm_front (A := L39) (perm_front (A := L40) (perm_front (A := L41) (perm_front (A := [_]) (List.Perm.refl _)))))) (L' := L33 ++ _) (perm_front (A := L38) (perm_front (A := L39) (perm_front (A := L40) (perm_front (A := L41) (perm_front (A := [_]) (perm_front (A := L32) (List.Perm.refl _)))))))) (L' := L32 ++ _) (perm_front (A := L33) (perm_front (A := L38) (perm_front (A := L39) (perm_front (A := L40) (perm_front (A := L41) (perm_front (A := [_]) (List.Perm.refl _)))))))) ho34 ho35 ho42 ho43 ho44 ho45
 have hs51 := (St.perm hs48 (L' := [_] ++ _) (perm_front (A := L49) (List.Perm.refl _)))
 refine ⟨_, congrArg Ending.returned ?_, (St.keep1 (St.perm hs51 (L' := L49 ++ _) (perm_front (A := [_]) (List.Perm.refl _)))), (by exact ho50)⟩
 first | rfl | (simp [endTerm]; done) | (simp [endTerm]; omega)
set_option maxHeartbeats 4000000 in
theorem c_laws_heldTerm (a : TermR) (k : Int) (w : World) (f_a : okTermR 549755813888 w (markTerm k a)) (h1 : 0 ≤ k) (h2 : endTerm k a ≤ 549755813888) :
    Calls Tryz.prog 18 #[.agg #[i64 a.P.State, .bool a.P.Mark, .slice a.P.Args.A a.P.Args.n a.P.Args.c, .slice a.P.Part.A a.P.Part.n a.P.Part.c, i64 a.S.W, i64 a.S.H, i64 a.S.Main.W, i64 a.S.Main.H, .slice a.S.Main.Cells.A a.S.Main.Cells.n a.S.Main.Cells.c, i64 a.S.Alt.W, i64 a.S.Alt.H, .slice a.S.Alt.Cells.A a.S.Alt.Cells.n a.S.Alt.Cells.c, .bool a.S.OnAlt, i64 a.S.X, i64 a.S.Y, .bool a.S.Wrap, i64 a.S.A.Fg, i64 a.S.A.Bg, .bool a.S.A.Bold, .bool a.S.A.Under, .bool a.S.A.Turn, i64 a.S.Top, i64 a.S.Bot, .bool a.S.NoWrap, .bool a.S.Hide, i64 a.S.SaveX, i64 a.S.SaveY, i64 a.S.SaveA.Fg, i64 a.S.SaveA.Bg, .bool a.S.SaveA.Bold, .bool a.S.SaveA.Under, .bool a.S.SaveA.Turn, .slice a.S.Tabs.A a.S.Tabs.n a.S.Tabs.c, i64 a.S.Limit, .slice a.S.Back.A a.S.Back.n a.S.Back.c], i64 k] w fun e w' => e = .returned (.int .i64 (endTerm k a)) ∧ St w [] [] w' := by
 have fm_P : okVpR 549755813888 w (markVp k a.P) := f_a.P
 have fm_S : okScrR 549755813888 w (markScr (endVp k a.P) a.S) := f_a.S
 have nb_P_Args : a.P.Args.n ≤ 549755813888 := f_a.P.Args_n
 have nl_P_Args : a.P.Args.xs.length = a.P.Args.n := by have h_ := f_a.P.Args.len; simpa [markGrid, markScr, markTerm, markVp, marks_len, mrks_len] using h_
 have nb_P_Part : a.P.Part.n ≤ 549755813888 := f_a.P.Part_n
 have nl_P_Part : a.P.Part.xs.length = a.P.Part.n := by have h_ := f_a.P.Part.len; simpa [markGrid, markScr, markTerm, markVp, marks_len, mrks_len] using h_
 have nb_S_Main_Cells : a.S.Main.Cells.n ≤ 549755813888 := f_a.S.Main.Cells_n
 have nl_S_Main_Cells : a.S.Main.Cells.xs.length = a.S.Main.Cells.n := by have h_ := f_a.S.Main.Cells.len; simpa [markGrid, markScr, markTerm, markVp, marks_len, mrks_len] using h_
 have nb_S_Alt_Cells : a.S.Alt.Cells.n ≤ 549755813888 := f_a.S.Alt.Cells_n
 have nl_S_Alt_Cells : a.S.Alt.Cells.xs.length = a.S.Alt.Cells.n := by have h_ := f_a.S.Alt.Cells.len; simpa [markGrid, markScr, markTerm, markVp, marks_len, mrks_len] using h_
 have nb_S_Tabs : a.S.Tabs.n ≤ 549755813888 := f_a.S.Tabs_n
 have nl_S_Tabs : a.S.Tabs.xs.length = a.S.Tabs.n := by have h_ := f_a.S.Tabs.len; simpa [markGrid, markScr, markTerm, markVp, marks_len, mrks_len] using h_
 have nb_S_Back : a.S.Back.n ≤ 549755813888 := f_a.S.Back_n
 have nl_S_Back : a.S.Back.xs.length = a.S.Back.n := by have h_ := f_a.S.Back.sl.len; simpa [markGrid, markScr, markTerm, markVp, marks_len, mrks_len] using h_
 have fm_P : okVpR 549755813888 w (markVp k a.P) := f_a.P
 have fm_S : okScrR 549755813888 w (markScr (endVp k a.P) a.S) := f_a.S
 have nb_P_Args : a.P.Args.n ≤ 549755813888 := f_a.P.Args_n
 have nl_P_Args : a.P.Args.xs.length = a.P.Args.n := by have h_ := f_a.P.Args.len; simpa [markGrid, markScr, markTerm, markVp, marks_len, mrks_len] using h_
 have nb_P_Part : a.P.Part.n ≤ 549755813888 := f_a.P.Part_n
 have nl_P_Part : a.P.Part.xs.length = a.P.Part.n := by have h_ := f_a.P.Part.len; simpa [markGrid, markScr, markTerm, markVp, marks_len, mrks_len] using h_
 have nb_S_Main_Cells : a.S.Main.Cells.n ≤ 549755813888 := f_a.S.Main.Cells_n
 have nl_S_Main_Cells : a.S.Main.Cells.xs.length = a.S.Main.Cells.n := by have h_ := f_a.S.Main.Cells.len; simpa [markGrid, markScr, markTerm, markVp, marks_len, mrks_len] using h_
 have nb_S_Alt_Cells : a.S.Alt.Cells.n ≤ 549755813888 := f_a.S.Alt.Cells_n
 have nl_S_Alt_Cells : a.S.Alt.Cells.xs.length = a.S.Alt.Cells.n := by have h_ := f_a.S.Alt.Cells.len; simpa [markGrid, markScr, markTerm, markVp, marks_len, mrks_len] using h_
 have nb_S_Tabs : a.S.Tabs.n ≤ 549755813888 := f_a.S.Tabs_n
 have nl_S_Tabs : a.S.Tabs.xs.length = a.S.Tabs.n := by have h_ := f_a.S.Tabs.len; simpa [markGrid, markScr, markTerm, markVp, marks_len, mrks_len] using h_
 have nb_S_Back : a.S.Back.n ≤ 549755813888 := f_a.S.Back_n
 have nl_S_Back : a.S.Back.xs.length = a.S.Back.n := by have h_ := f_a.S.Back.sl.len; simpa [markGrid, markScr, markTerm, markVp, marks_len, mrks_len] using h_
 have hq2 := h2
 simp only [endGrid, endScr, endTerm, endVp] at hq2
 have hcn_S_Back := cnts_nonneg (c := cntERow) (fun x => by simp only [cntERow]; omega) a.S.Back.xs
 refine enter (vs := [.agg #[i64 a.P.State, .bool a.P.Mark, .slice a.P.Args.A a.P.Args.n a.P.Args.c, .slice a.P.Part.A a.P.Part.n a.P.Part.c, i64 a.S.W, i64 a.S.H, i64 a.S.Main.W, i64 a.S.Main.H, .slice a.S.Main.Cells.A a.S.Main.Cells.n a.S.Main.Cells.c, i64 a.S.Alt.W, i64 a.S.Alt.H, .slice a.S.Alt.Cells.A a.S.Alt.Cells.n a.S.Alt.Cells.c, .bool a.S.OnAlt, i64 a.S.X, i64 a.S.Y, .bool a.S.Wrap, i64 a.S.A.Fg, i64 a.S.A.Bg, .bool a.S.A.Bold, .bool a.S.A.Under, .bool a.S.A.Turn, i64 a.S.Top, i64 a.S.Bot, .bool a.S.NoWrap, .bool a.S.Hide, i64 a.S.SaveX, i64 a.S.SaveY, i64 a.S.SaveA.Fg, i64 a.S.SaveA.Bg, .bool a.S.SaveA.Bold, .bool a.S.SaveA.Under, .bool a.S.SaveA.Turn, .slice a.S.Tabs.A a.S.Tabs.n a.S.Tabs.c, i64 a.S.Limit, .slice a.S.Back.A a.S.Back.n a.S.Back.c], i64 k]) 18 Tryz.func18 rfl Tryz.ntmps18 rfl rfl ?_
 have hs1 := St.init w
 refine WC.sr ?_
 refine WL.bx hs1 rfl (fun b2 _ hs3 => ?_)
 refine WL.run tbk 1 hs3 [] rfl trivial ?_
 refine WL.nil ?_
 refine WC.sr ?_
 refine WL.run tbk 3 hs3 [0] rfl ⟨rfl, trivial⟩ ?_
 refine WL.call rfl rfl rfl (Run.call Tryz.call64 rfl rfl rfl) (c_laws_heldVp _ _ _ (okVpR.st0 fm_P hs3) ?_ ?_) ?_
 · first | (first | assumption | omega) | (simp only [endGrid, endScr, endTerm, endVp]; omega)
 · first | (first | assumption | omega | (simp only [endVp]; omega)) | (simp only [endGrid, endScr, endTerm, endVp]; omega)
 rintro _ whs4 ⟨rfl, hs4⟩
 replace hs4 := hs3.call0 hs4
 refine ⟨_, rfl, ?_⟩
 refine WL.run tbk 1 hs4 [] rfl trivial ?_
 refine WL.nil ?_
 refine WC.seq (fun K5 hK5 => ?_)
 refine WC.rr tbk hs4 [] rfl trivial ?_
 refine WC.condF rfl (by first | (simp; omega) | (rw [decide_eq_false_iff_not]; simp only [endGrid, endScr, endTerm, endVp]; omega)) ?_
 refine WC.skip ?_
 refine hK5 _ _ ?_
 refine WC.sr ?_
 refine WL.run tbk 3 hs4 [0] rfl ⟨rfl, trivial⟩ ?_
 refine WL.call rfl rfl rfl (Run.call Tryz.call35 rfl rfl rfl) (c_laws_heldScr _ _ _ (okScrR.st0 fm_S hs4) ?_ ?_) ?_
 · first | (first | assumption | omega) | (simp only [endGrid, endScr, endTerm, endVp]; omega)
 · first | (first | assumption | omega | (simp only [endGrid, endScr]; omega)) | (simp only [endGrid, endScr, endTerm, endVp]; omega)
 rintro _ whs7 ⟨rfl, hs7⟩
 replace hs7 := hs4.call0 hs7
 refine ⟨_, rfl, ?_⟩
 refine WL.run tbk 1 hs7 [] rfl trivial ?_
 refine WL.nil ?_
 refine WC.seq (fun K8 hK8 => ?_)
 refine WC.rr tbk hs7 [] rfl trivial ?_
 refine WC.condF rfl (by first | (simp; omega) | (rw [decide_eq_false_iff_not]; simp only [endGrid, endScr, endTerm, endVp]; omega)) ?_
 refine WC.skip ?_
 refine hK8 _ _ ?_
 refine WC.rr tbk hs7 [] rfl trivial ?_
 refine WC.ret ?_
 refine retV1 rfl (resV.tmp rfl) ?_
 refine ⟨congrArg Ending.returned ?_, hs7.nil⟩
 first | rfl | (simp [endGrid, endScr, endTerm, endVp, *]; done) | (simp [endGrid, endScr, endTerm, endVp, *]; omega)
end Go.Proofs.YtlmcekfdlgkffaaGreat
