/- Walks of Go functions, printed by a program (wip/gen). -/
import Derived.Test.YtlmcekfdlgkffaaH2
namespace Go.Proofs.Ytlmcekfdlgkffaa
open Go Go.RowKit
set_option linter.unusedVariables false
set_option linter.unusedSimpArgs false
set_option maxHeartbeats 4000000 in
theorem c_laws_toScr (a : ScrR) (w : World) (f_a : okScrR 549755813888 w a) :
    Calls Try.prog 41 #[.agg #[i64 a.W, i64 a.H, i64 a.Main.W, i64 a.Main.H, .slice a.Main.Cells.A a.Main.Cells.n a.Main.Cells.c, i64 a.Alt.W, i64 a.Alt.H, .slice a.Alt.Cells.A a.Alt.Cells.n a.Alt.Cells.c, .bool a.OnAlt, i64 a.X, i64 a.Y, .bool a.Wrap, i64 a.A.Fg, i64 a.A.Bg, .bool a.A.Bold, .bool a.A.Under, .bool a.A.Turn, i64 a.Top, i64 a.Bot, .bool a.NoWrap, .bool a.Hide, i64 a.SaveX, i64 a.SaveY, i64 a.SaveA.Fg, i64 a.SaveA.Bg, .bool a.SaveA.Bold, .bool a.SaveA.Under, .bool a.SaveA.Turn, .slice a.Tabs.A a.Tabs.n a.Tabs.c, i64 a.Limit, .slice a.Back.A a.Back.n a.Back.c]] w fun e w' => ∃ r L1, e = .returned (.agg #[i64 r.W, i64 r.H, i64 r.Main.W, i64 r.Main.H, .slice r.Main.Cells.A r.Main.Cells.n r.Main.Cells.c, i64 r.Alt.W, i64 r.Alt.H, .slice r.Alt.Cells.A r.Alt.Cells.n r.Alt.Cells.c, .bool r.OnAlt, i64 r.X, i64 r.Y, .bool r.Wrap, i64 r.A.Fg, i64 r.A.Bg, .bool r.A.Bold, .bool r.A.Under, .bool r.A.Turn, i64 r.Top, i64 r.Bot, .bool r.NoWrap, .bool r.Hide, i64 r.SaveX, i64 r.SaveY, i64 r.SaveA.Fg, i64 r.SaveA.Bg, .bool r.SaveA.Bold, .bool r.SaveA.Under, .bool r.SaveA.Turn, .slice r.Tabs.A r.Tabs.n r.Tabs.c, i64 r.Limit, .slice r.Back.A r.Back.n r.Back.c]) ∧ St w [] L1 w' ∧ ownScrR r L1 ∧ r.dat = a.dat := by
 have nb_a_Main_Cells := f_a.Main.Cells_n
 have nl_a_Main_Cells := f_a.Main.Cells.len
 have nb_a_Alt_Cells := f_a.Alt.Cells_n
 have nl_a_Alt_Cells := f_a.Alt.Cells.len
 have nb_a_Tabs := f_a.Tabs_n
 have nl_a_Tabs := f_a.Tabs.len
 have nb_a_Back := f_a.Back_n
 have nl_a_Back := f_a.Back.sl.len
 refine enter (vs := [.agg #[i64 a.W, i64 a.H, i64 a.Main.W, i64 a.Main.H, .slice a.Main.Cells.A a.Main.Cells.n a.Main.Cells.c, i64 a.Alt.W, i64 a.Alt.H, .slice a.Alt.Cells.A a.Alt.Cells.n a.Alt.Cells.c, .bool a.OnAlt, i64 a.X, i64 a.Y, .bool a.Wrap, i64 a.A.Fg, i64 a.A.Bg, .bool a.A.Bold, .bool a.A.Under, .bool a.A.Turn, i64 a.Top, i64 a.Bot, .bool a.NoWrap, .bool a.Hide, i64 a.SaveX, i64 a.SaveY, i64 a.SaveA.Fg, i64 a.SaveA.Bg, .bool a.SaveA.Bold, .bool a.SaveA.Under, .bool a.SaveA.Turn, .slice a.Tabs.A a.Tabs.n a.Tabs.c, i64 a.Limit, .slice a.Back.A a.Back.n a.Back.c]]) 68 Try.func41 rfl Try.ntmps41 rfl rfl ?_
 have hs1 := St.init w
 refine WC.sr ?_
 refine WL.bx hs1 rfl (fun b2 _ hs3 => ?_)
 refine WL.al hs3 Try.zeroValue33 rfl rfl (fun b4 _ hs5 => ?_)
 refine WL.nil ?_
 refine WC.sr ?_
 refine WL.al hs5 Try.zeroValue33 rfl rfl (fun b6 _ hs7 => ?_)
 refine WL.nil ?_
 refine WC.sr ?_
 refine WL.run tbk 3 hs7 [2] rfl ⟨rfl, trivial⟩ ?_
 refine WL.st tbk hs7 0 rfl rfl (fun _ hs8 => ?_)
 refine WL.nil ?_
 refine WC.sr ?_
 refine WL.run tbk 3 hs8 [2] rfl ⟨rfl, trivial⟩ ?_
 refine WL.st tbk hs8 0 rfl rfl (fun _ hs9 => ?_)
 refine WL.nil ?_
 refine WC.sr ?_
 refine WL.run tbk 2 hs9 [2] rfl ⟨rfl, trivial⟩ ?_
 refine WL.call rfl rfl rfl (Run.call Try.call86 rfl rfl rfl) (c_laws_toGrid a.Main _ (okGridR.st0 f_a.Main hs9)) ?_
 rintro _ whs10 ⟨r11, L1_12, rfl, hs10, ho13, hd14⟩
 replace hs10 := hs9.callF hs10
 refine ⟨_, rfl, ?_⟩
 replace hs10 := St.back [_, _, _] hs10
 refine WL.run tbk 1 hs10 [] rfl trivial ?_
 refine WL.st tbk hs10 0 rfl rfl (fun _ hs15 => ?_)
 refine WL.nil ?_
 refine WC.sr ?_
 refine WL.run tbk 2 hs15 [2] rfl ⟨rfl, trivial⟩ ?_
 refine WL.call rfl rfl rfl (Run.call Try.call86 rfl rfl rfl) (c_laws_toGrid a.Alt _ (okGridR.st0 f_a.Alt hs15)) ?_
 rintro _ whs16 ⟨r17, L1_18, rfl, hs16, ho19, hd20⟩
 replace hs16 := hs15.callF hs16
 refine ⟨_, rfl, ?_⟩
 replace hs16 := St.back [_, _, _] hs16
 refine WL.run tbk 1 hs16 [] rfl trivial ?_
 refine WL.st tbk hs16 0 rfl rfl (fun _ hs21 => ?_)
 refine WL.nil ?_
 refine WC.sr ?_
 refine WL.run tbk 3 hs21 [2] rfl ⟨rfl, trivial⟩ ?_
 refine WL.st tbk hs21 0 rfl rfl (fun _ hs22 => ?_)
 refine WL.nil ?_
 refine WC.sr ?_
 refine WL.run tbk 3 hs22 [2] rfl ⟨rfl, trivial⟩ ?_
 refine WL.st tbk hs22 0 rfl rfl (fun _ hs23 => ?_)
 refine WL.nil ?_
 refine WC.sr ?_
 refine WL.run tbk 3 hs23 [2] rfl ⟨rfl, trivial⟩ ?_
 refine WL.st tbk hs23 0 rfl rfl (fun _ hs24 => ?_)
 refine WL.nil ?_
 refine WC.sr ?_
 refine WL.run tbk 3 hs24 [2] rfl ⟨rfl, trivial⟩ ?_
 refine WL.st tbk hs24 0 rfl rfl (fun _ hs25 => ?_)
 refine WL.nil ?_
 refine WC.sr ?_
 refine WL.run tbk 2 hs25 [2] rfl ⟨rfl, trivial⟩ ?_
 refine WL.call rfl rfl rfl (Run.call Try.call87 rfl rfl rfl) (c_laws_toAttr _ _ _ _ _ _) ?_
 rintro _ whs26 ⟨rfl, hs26⟩
 replace hs26 := hs25.call0 hs26
 refine ⟨_, rfl, ?_⟩
 refine WL.run tbk 1 hs26 [] rfl trivial ?_
 refine WL.st tbk hs26 0 rfl rfl (fun _ hs27 => ?_)
 refine WL.nil ?_
 refine WC.sr ?_
 refine WL.run tbk 3 hs27 [2] rfl ⟨rfl, trivial⟩ ?_
 refine WL.st tbk hs27 0 rfl rfl (fun _ hs28 => ?_)
 refine WL.nil ?_
 refine WC.sr ?_
 refine WL.run tbk 3 hs28 [2] rfl ⟨rfl, trivial⟩ ?_
 refine WL.st tbk hs28 0 rfl rfl (fun _ hs29 => ?_)
 refine WL.nil ?_
 refine WC.sr ?_
 refine WL.run tbk 3 hs29 [2] rfl ⟨rfl, trivial⟩ ?_
 refine WL.st tbk hs29 0 rfl rfl (fun _ hs30 => ?_)
 refine WL.nil ?_
 refine WC.sr ?_
 refine WL.run tbk 3 hs30 [2] rfl ⟨rfl, trivial⟩ ?_
 refine WL.st tbk hs30 0 rfl rfl (fun _ hs31 => ?_)
 refine WL.nil ?_
 refine WC.sr ?_
 refine WL.run tbk 3 hs31 [2] rfl ⟨rfl, trivial⟩ ?_
 refine WL.st tbk hs31 0 rfl rfl (fun _ hs32 => ?_)
 refine WL.nil ?_
 refine WC.sr ?_
 refine WL.run tbk 3 hs32 [2] rfl ⟨rfl, trivial⟩ ?_
 refine WL.st tbk hs32 0 rfl rfl (fun _ hs33 => ?_)
 refine WL.nil ?_
 refine WC.sr ?_
 refine WL.run tbk 2 hs33 [2] rfl ⟨rfl, trivial⟩ ?_
 refine WL.call rfl rfl rfl (Run.call Try.call87 rfl rfl rfl) (c_laws_toAttr _ _ _ _ _ _) ?_
 rintro _ whs34 ⟨rfl, hs34⟩
 replace hs34 := hs33.call0 hs34
 refine ⟨_, rfl, ?_⟩
 refine WL.run tbk 1 hs34 [] rfl trivial ?_
 refine WL.st tbk hs34 0 rfl rfl (fun _ hs35 => ?_)
 refine WL.nil ?_
 refine WC.sr ?_
 refine WL.run tbk 2 hs35 [2] rfl ⟨rfl, trivial⟩ ?_
 refine WL.call rfl rfl rfl (Run.call Try.call70 rfl rfl rfl) (c_laws_toIntS _ _ _ _ _ (SlF.st0 f_a.Tabs hs35) ?_) ?_
 · first | assumption | rfl | omega
 rintro _ whs36 ⟨A37, c38, L1_39, rfl, hs36, ho40⟩
 replace hs36 := hs35.callF hs36
 refine ⟨_, rfl, ?_⟩
 replace hs36 := St.back [_, _, _] hs36
 refine WL.run tbk 1 hs36 [] rfl trivial ?_
 refine WL.st tbk hs36 0 rfl rfl (fun _ hs41 => ?_)
 refine WL.nil ?_
 refine WC.sr ?_
 refine WL.run tbk 3 hs41 [2] rfl ⟨rfl, trivial⟩ ?_
 refine WL.st tbk hs41 0 rfl rfl (fun _ hs42 => ?_)
 refine WL.nil ?_
 refine WC.sr ?_
 refine WL.run tbk 2 hs42 [2] rfl ⟨rfl, trivial⟩ ?_
 refine WL.call rfl rfl rfl (Run.call Try.call88 rfl rfl rfl) (c_laws_toRowS _ _ _ _ _ (SlN.st0 okRowR.st0 f_a.Back hs42) ?_) ?_
 · first | assumption | rfl | omega
 rintro _ whs43 ⟨A44, c45, xs46, L1_47, rfl, hs43, ho48, hd49⟩
 replace hs43 := hs42.callF hs43
 refine ⟨_, rfl, ?_⟩
 replace hs43 := St.back [_, _, _] hs43
 refine WL.run tbk 1 hs43 [] rfl trivial ?_
 refine WL.st tbk hs43 0 rfl rfl (fun _ hs50 => ?_)
 refine WL.nil ?_
 refine WC.sr ?_
 refine WL.run tbk 1 hs50 [0] rfl ⟨rfl, trivial⟩ ?_
 refine WL.st tbk hs50 1 rfl rfl (fun _ hs51 => ?_)
 refine WL.nil ?_
 refine WC.ret ?_
 refine retV1 rfl (resV.cellA tbk hs51 1 rfl rfl rfl rfl) ?_
 obtain ⟨L53, hs52, ho54⟩ := ownScrR.fold ⟨0, 0, ⟨0, 0, ⟨_, _, _, _⟩⟩, ⟨0, 0, ⟨_, _, _, _⟩⟩, false, 0, 0, false, ⟨0, 0, false, false, false⟩, 0, 0, false, false, 0, 0, ⟨0, 0, false, false, false⟩, ⟨_, _, _, _⟩, 0, ⟨_, _, _, _⟩⟩ (St.perm (St.perm (St.perm (St.perm hs51 (L' := L1_47 ++ _) (perm_front (A := [_, _, _]) (List.Perm.refl _))) (L' := L1_39 ++ _) (perm_front (A := L1_47) (perm_front (A := [_, _, _]) (List.Perm.refl _)))) (L' := L1_18 ++ _) (perm_front (A := L1_39) (perm_front (A := L1_47) (perm_front (A := [_, _, _]) (List.Perm.refl _))))) (L' := L1_12 ++ _) (perm_front (A := L1_18) (perm_front (A := L1_39) (perm_front (A := L1_47) (perm_front (A := [_, _, _]) (List.Perm.refl _)))))) ho13 ho19 ho40 ho48
 have hs55 := (St.perm (St.perm (St.perm hs52 (L' := [_] ++ _) (perm_front (A := L53) (perm_front (A := [_, _]) (List.Perm.refl _)))) (L' := [_] ++ _) (perm_front (A := [_]) (perm_front (A := L53) (perm_front (A := [_]) (List.Perm.refl _))))) (L' := [_] ++ _) (perm_front (A := [_, _]) (perm_front (A := L53) (List.Perm.refl _))))
 refine ⟨⟨a.W, a.H, ⟨r11.W, r11.H, SlD.of ho13⟩, ⟨r17.W, r17.H, SlD.of ho19⟩, a.OnAlt, a.X, a.Y, a.Wrap, ⟨_, _, _, _, _⟩, a.Top, a.Bot, a.NoWrap, a.Hide, a.SaveX, a.SaveY, ⟨_, _, _, _, _⟩, SlD.of ho40, a.Limit, SlD.ofN ho48⟩, _, rfl, (St.keep1 (St.perm hs55 (L' := L53 ++ _) (perm_front (A := [_, _, _]) (List.Perm.refl _)))), ?_, ?_⟩
 · exact (by exact ho54)
 · exact ScrD.ext' rfl rfl hd14 hd20 rfl rfl rfl rfl rfl rfl rfl rfl rfl rfl rfl rfl rfl rfl hd49
set_option maxHeartbeats 4000000 in
theorem c_laws_eqScr (a : ScrR) (b : ScrR) (w : World) (f_a : okScrR 549755813888 w a) (f_b : okScrR 549755813888 w b) (hab : a.dat = b.dat) :
    Calls Try.prog 43 #[.agg #[i64 a.W, i64 a.H, i64 a.Main.W, i64 a.Main.H, .slice a.Main.Cells.A a.Main.Cells.n a.Main.Cells.c, i64 a.Alt.W, i64 a.Alt.H, .slice a.Alt.Cells.A a.Alt.Cells.n a.Alt.Cells.c, .bool a.OnAlt, i64 a.X, i64 a.Y, .bool a.Wrap, i64 a.A.Fg, i64 a.A.Bg, .bool a.A.Bold, .bool a.A.Under, .bool a.A.Turn, i64 a.Top, i64 a.Bot, .bool a.NoWrap, .bool a.Hide, i64 a.SaveX, i64 a.SaveY, i64 a.SaveA.Fg, i64 a.SaveA.Bg, .bool a.SaveA.Bold, .bool a.SaveA.Under, .bool a.SaveA.Turn, .slice a.Tabs.A a.Tabs.n a.Tabs.c, i64 a.Limit, .slice a.Back.A a.Back.n a.Back.c], .agg #[i64 b.W, i64 b.H, i64 b.Main.W, i64 b.Main.H, .slice b.Main.Cells.A b.Main.Cells.n b.Main.Cells.c, i64 b.Alt.W, i64 b.Alt.H, .slice b.Alt.Cells.A b.Alt.Cells.n b.Alt.Cells.c, .bool b.OnAlt, i64 b.X, i64 b.Y, .bool b.Wrap, i64 b.A.Fg, i64 b.A.Bg, .bool b.A.Bold, .bool b.A.Under, .bool b.A.Turn, i64 b.Top, i64 b.Bot, .bool b.NoWrap, .bool b.Hide, i64 b.SaveX, i64 b.SaveY, i64 b.SaveA.Fg, i64 b.SaveA.Bg, .bool b.SaveA.Bold, .bool b.SaveA.Under, .bool b.SaveA.Turn, .slice b.Tabs.A b.Tabs.n b.Tabs.c, i64 b.Limit, .slice b.Back.A b.Back.n b.Back.c]] w fun e w' => e = .returned (.bool true) ∧ St w [] [] w' := by
 have nb_a_Main_Cells := f_a.Main.Cells_n
 have nl_a_Main_Cells := f_a.Main.Cells.len
 have nb_a_Alt_Cells := f_a.Alt.Cells_n
 have nl_a_Alt_Cells := f_a.Alt.Cells.len
 have nb_a_Tabs := f_a.Tabs_n
 have nl_a_Tabs := f_a.Tabs.len
 have nb_a_Back := f_a.Back_n
 have nl_a_Back := f_a.Back.sl.len
 have nb_b_Main_Cells := f_b.Main.Cells_n
 have nl_b_Main_Cells := f_b.Main.Cells.len
 have nb_b_Alt_Cells := f_b.Alt.Cells_n
 have nl_b_Alt_Cells := f_b.Alt.Cells.len
 have nb_b_Tabs := f_b.Tabs_n
 have nl_b_Tabs := f_b.Tabs.len
 have nb_b_Back := f_b.Back_n
 have nl_b_Back := f_b.Back.sl.len
 have e_W : a.W = b.W := congrArg (fun d : ScrD => d.W) hab
 have e_H : a.H = b.H := congrArg (fun d : ScrD => d.H) hab
 have e_Main : a.Main.dat = b.Main.dat := congrArg (fun d : ScrD => d.Main) hab
 have e_Main_W : a.Main.W = b.Main.W := congrArg (fun d : ScrD => d.Main.W) hab
 have e_Main_H : a.Main.H = b.Main.H := congrArg (fun d : ScrD => d.Main.H) hab
 have e_Main_Cells : a.Main.Cells.xs = b.Main.Cells.xs := congrArg (fun d : ScrD => d.Main.Cells) hab
 have e_Alt : a.Alt.dat = b.Alt.dat := congrArg (fun d : ScrD => d.Alt) hab
 have e_Alt_W : a.Alt.W = b.Alt.W := congrArg (fun d : ScrD => d.Alt.W) hab
 have e_Alt_H : a.Alt.H = b.Alt.H := congrArg (fun d : ScrD => d.Alt.H) hab
 have e_Alt_Cells : a.Alt.Cells.xs = b.Alt.Cells.xs := congrArg (fun d : ScrD => d.Alt.Cells) hab
 have e_OnAlt : a.OnAlt = b.OnAlt := congrArg (fun d : ScrD => d.OnAlt) hab
 have e_X : a.X = b.X := congrArg (fun d : ScrD => d.X) hab
 have e_Y : a.Y = b.Y := congrArg (fun d : ScrD => d.Y) hab
 have e_Wrap : a.Wrap = b.Wrap := congrArg (fun d : ScrD => d.Wrap) hab
 have e_A : a.A = b.A := congrArg (fun d : ScrD => d.A) hab
 have e_A_Fg : a.A.Fg = b.A.Fg := congrArg (fun d : ScrD => d.A.Fg) hab
 have e_A_Bg : a.A.Bg = b.A.Bg := congrArg (fun d : ScrD => d.A.Bg) hab
 have e_A_Bold : a.A.Bold = b.A.Bold := congrArg (fun d : ScrD => d.A.Bold) hab
 have e_A_Under : a.A.Under = b.A.Under := congrArg (fun d : ScrD => d.A.Under) hab
 have e_A_Turn : a.A.Turn = b.A.Turn := congrArg (fun d : ScrD => d.A.Turn) hab
 have e_Top : a.Top = b.Top := congrArg (fun d : ScrD => d.Top) hab
 have e_Bot : a.Bot = b.Bot := congrArg (fun d : ScrD => d.Bot) hab
 have e_NoWrap : a.NoWrap = b.NoWrap := congrArg (fun d : ScrD => d.NoWrap) hab
 have e_Hide : a.Hide = b.Hide := congrArg (fun d : ScrD => d.Hide) hab
 have e_SaveX : a.SaveX = b.SaveX := congrArg (fun d : ScrD => d.SaveX) hab
 have e_SaveY : a.SaveY = b.SaveY := congrArg (fun d : ScrD => d.SaveY) hab
 have e_SaveA : a.SaveA = b.SaveA := congrArg (fun d : ScrD => d.SaveA) hab
 have e_SaveA_Fg : a.SaveA.Fg = b.SaveA.Fg := congrArg (fun d : ScrD => d.SaveA.Fg) hab
 have e_SaveA_Bg : a.SaveA.Bg = b.SaveA.Bg := congrArg (fun d : ScrD => d.SaveA.Bg) hab
 have e_SaveA_Bold : a.SaveA.Bold = b.SaveA.Bold := congrArg (fun d : ScrD => d.SaveA.Bold) hab
 have e_SaveA_Under : a.SaveA.Under = b.SaveA.Under := congrArg (fun d : ScrD => d.SaveA.Under) hab
 have e_SaveA_Turn : a.SaveA.Turn = b.SaveA.Turn := congrArg (fun d : ScrD => d.SaveA.Turn) hab
 have e_Tabs : a.Tabs.xs = b.Tabs.xs := congrArg (fun d : ScrD => d.Tabs) hab
 have e_Limit : a.Limit = b.Limit := congrArg (fun d : ScrD => d.Limit) hab
 have e_Back : a.Back.xs.map RowR.dat = b.Back.xs.map RowR.dat := congrArg (fun d : ScrD => d.Back) hab
 refine enter (vs := [.agg #[i64 a.W, i64 a.H, i64 a.Main.W, i64 a.Main.H, .slice a.Main.Cells.A a.Main.Cells.n a.Main.Cells.c, i64 a.Alt.W, i64 a.Alt.H, .slice a.Alt.Cells.A a.Alt.Cells.n a.Alt.Cells.c, .bool a.OnAlt, i64 a.X, i64 a.Y, .bool a.Wrap, i64 a.A.Fg, i64 a.A.Bg, .bool a.A.Bold, .bool a.A.Under, .bool a.A.Turn, i64 a.Top, i64 a.Bot, .bool a.NoWrap, .bool a.Hide, i64 a.SaveX, i64 a.SaveY, i64 a.SaveA.Fg, i64 a.SaveA.Bg, .bool a.SaveA.Bold, .bool a.SaveA.Under, .bool a.SaveA.Turn, .slice a.Tabs.A a.Tabs.n a.Tabs.c, i64 a.Limit, .slice a.Back.A a.Back.n a.Back.c], .agg #[i64 b.W, i64 b.H, i64 b.Main.W, i64 b.Main.H, .slice b.Main.Cells.A b.Main.Cells.n b.Main.Cells.c, i64 b.Alt.W, i64 b.Alt.H, .slice b.Alt.Cells.A b.Alt.Cells.n b.Alt.Cells.c, .bool b.OnAlt, i64 b.X, i64 b.Y, .bool b.Wrap, i64 b.A.Fg, i64 b.A.Bg, .bool b.A.Bold, .bool b.A.Under, .bool b.A.Turn, i64 b.Top, i64 b.Bot, .bool b.NoWrap, .bool b.Hide, i64 b.SaveX, i64 b.SaveY, i64 b.SaveA.Fg, i64 b.SaveA.Bg, .bool b.SaveA.Bold, .bool b.SaveA.Under, .bool b.SaveA.Turn, .slice b.Tabs.A b.Tabs.n b.Tabs.c, i64 b.Limit, .slice b.Back.A b.Back.n b.Back.c]]) 106 Try.func43 rfl Try.ntmps43 rfl rfl ?_
 have hs1 := St.init w
 refine WC.sr ?_
 refine WL.bx hs1 rfl (fun b2 _ hs3 => ?_)
 refine WL.bx hs3 rfl (fun b4 _ hs5 => ?_)
 refine WL.run tbk 1 hs5 [] rfl trivial ?_
 refine WL.nil ?_
 refine WC.seq (fun K6 hK6 => ?_)
 refine WC.rr tbk hs5 [1, 0] rfl ⟨rfl, rfl, trivial⟩ ?_
 refine WC.condF rfl (by simp [e_W, e_H, e_Main_W, e_Main_H, e_Alt_W, e_Alt_H, e_OnAlt, e_X, e_Y, e_Wrap, e_A_Fg, e_A_Bg, e_A_Bold, e_A_Under, e_A_Turn, e_Top, e_Bot, e_NoWrap, e_Hide, e_SaveX, e_SaveY, e_SaveA_Fg, e_SaveA_Bg, e_SaveA_Bold, e_SaveA_Under, e_SaveA_Turn, e_Limit]) ?_
 refine WC.skip ?_
 refine hK6 _ _ ?_
 refine WC.seq (fun K8 hK8 => ?_)
 refine WC.rr tbk hs5 [1, 0] rfl ⟨rfl, rfl, trivial⟩ ?_
 refine WC.condF rfl (by simp [e_W, e_H, e_Main_W, e_Main_H, e_Alt_W, e_Alt_H, e_OnAlt, e_X, e_Y, e_Wrap, e_A_Fg, e_A_Bg, e_A_Bold, e_A_Under, e_A_Turn, e_Top, e_Bot, e_NoWrap, e_Hide, e_SaveX, e_SaveY, e_SaveA_Fg, e_SaveA_Bg, e_SaveA_Bold, e_SaveA_Under, e_SaveA_Turn, e_Limit]) ?_
 refine WC.skip ?_
 refine hK8 _ _ ?_
 refine WC.seq (fun K10 hK10 => ?_)
 refine WC.sr ?_
 refine WL.run tbk 4 hs5 [1, 0] rfl ⟨rfl, rfl, trivial⟩ ?_
 refine WL.call rfl rfl rfl (Run.call Try.call93 rfl rfl rfl) (c_laws_eqGrid a.Main b.Main _ (okGridR.st0 f_a.Main hs5) (okGridR.st0 f_b.Main hs5) ?_) ?_
 · first | assumption | rfl | omega
 rintro _ whs11 ⟨rfl, hs11⟩
 replace hs11 := hs5.call0 hs11
 refine ⟨_, rfl, ?_⟩
 refine WL.run tbk 1 hs11 [] rfl trivial ?_
 refine WL.nil ?_
 refine WC.condF rfl (by simp [e_W, e_H, e_Main_W, e_Main_H, e_Alt_W, e_Alt_H, e_OnAlt, e_X, e_Y, e_Wrap, e_A_Fg, e_A_Bg, e_A_Bold, e_A_Under, e_A_Turn, e_Top, e_Bot, e_NoWrap, e_Hide, e_SaveX, e_SaveY, e_SaveA_Fg, e_SaveA_Bg, e_SaveA_Bold, e_SaveA_Under, e_SaveA_Turn, e_Limit]) ?_
 refine WC.skip ?_
 refine hK10 _ _ ?_
 refine WC.seq (fun K13 hK13 => ?_)
 refine WC.sr ?_
 refine WL.run tbk 4 hs11 [1, 0] rfl ⟨rfl, rfl, trivial⟩ ?_
 refine WL.call rfl rfl rfl (Run.call Try.call93 rfl rfl rfl) (c_laws_eqGrid a.Alt b.Alt _ (okGridR.st0 f_a.Alt hs11) (okGridR.st0 f_b.Alt hs11) ?_) ?_
 · first | assumption | rfl | omega
 rintro _ whs14 ⟨rfl, hs14⟩
 replace hs14 := hs11.call0 hs14
 refine ⟨_, rfl, ?_⟩
 refine WL.run tbk 1 hs14 [] rfl trivial ?_
 refine WL.nil ?_
 refine WC.condF rfl (by simp [e_W, e_H, e_Main_W, e_Main_H, e_Alt_W, e_Alt_H, e_OnAlt, e_X, e_Y, e_Wrap, e_A_Fg, e_A_Bg, e_A_Bold, e_A_Under, e_A_Turn, e_Top, e_Bot, e_NoWrap, e_Hide, e_SaveX, e_SaveY, e_SaveA_Fg, e_SaveA_Bg, e_SaveA_Bold, e_SaveA_Under, e_SaveA_Turn, e_Limit]) ?_
 refine WC.skip ?_
 refine hK13 _ _ ?_
 refine WC.seq (fun K16 hK16 => ?_)
 refine WC.rr tbk hs14 [1, 0] rfl ⟨rfl, rfl, trivial⟩ ?_
 refine WC.condF rfl (by simp [e_W, e_H, e_Main_W, e_Main_H, e_Alt_W, e_Alt_H, e_OnAlt, e_X, e_Y, e_Wrap, e_A_Fg, e_A_Bg, e_A_Bold, e_A_Under, e_A_Turn, e_Top, e_Bot, e_NoWrap, e_Hide, e_SaveX, e_SaveY, e_SaveA_Fg, e_SaveA_Bg, e_SaveA_Bold, e_SaveA_Under, e_SaveA_Turn, e_Limit]) ?_
 refine WC.skip ?_
 refine hK16 _ _ ?_
 refine WC.seq (fun K18 hK18 => ?_)
 refine WC.rr tbk hs14 [1, 0] rfl ⟨rfl, rfl, trivial⟩ ?_
 refine WC.condF rfl (by simp [e_W, e_H, e_Main_W, e_Main_H, e_Alt_W, e_Alt_H, e_OnAlt, e_X, e_Y, e_Wrap, e_A_Fg, e_A_Bg, e_A_Bold, e_A_Under, e_A_Turn, e_Top, e_Bot, e_NoWrap, e_Hide, e_SaveX, e_SaveY, e_SaveA_Fg, e_SaveA_Bg, e_SaveA_Bold, e_SaveA_Under, e_SaveA_Turn, e_Limit]) ?_
 refine WC.skip ?_
 refine hK18 _ _ ?_
 refine WC.seq (fun K20 hK20 => ?_)
 refine WC.rr tbk hs14 [1, 0] rfl ⟨rfl, rfl, trivial⟩ ?_
 refine WC.condF rfl (by simp [e_W, e_H, e_Main_W, e_Main_H, e_Alt_W, e_Alt_H, e_OnAlt, e_X, e_Y, e_Wrap, e_A_Fg, e_A_Bg, e_A_Bold, e_A_Under, e_A_Turn, e_Top, e_Bot, e_NoWrap, e_Hide, e_SaveX, e_SaveY, e_SaveA_Fg, e_SaveA_Bg, e_SaveA_Bold, e_SaveA_Under, e_SaveA_Turn, e_Limit]) ?_
 refine WC.skip ?_
 refine hK20 _ _ ?_
 refine WC.seq (fun K22 hK22 => ?_)
 refine WC.rr tbk hs14 [1, 0] rfl ⟨rfl, rfl, trivial⟩ ?_
 refine WC.condF rfl (by simp [e_W, e_H, e_Main_W, e_Main_H, e_Alt_W, e_Alt_H, e_OnAlt, e_X, e_Y, e_Wrap, e_A_Fg, e_A_Bg, e_A_Bold, e_A_Under, e_A_Turn, e_Top, e_Bot, e_NoWrap, e_Hide, e_SaveX, e_SaveY, e_SaveA_Fg, e_SaveA_Bg, e_SaveA_Bold, e_SaveA_Under, e_SaveA_Turn, e_Limit]) ?_
 refine WC.skip ?_
 refine hK22 _ _ ?_
 refine WC.seq (fun K24 hK24 => ?_)
 refine WC.sr ?_
 refine WL.run tbk 4 hs14 [1, 0] rfl ⟨rfl, rfl, trivial⟩ ?_
 refine WL.call rfl rfl rfl (Run.call Try.call94 rfl rfl rfl) (c_laws_eqAttr _ _ _ _ _ _ _ _ _ _ _ ?_) ?_
 · first | assumption | rfl | omega
 rintro _ whs25 ⟨rfl, hs25⟩
 replace hs25 := hs14.call0 hs25
 refine ⟨_, rfl, ?_⟩
 refine WL.run tbk 1 hs25 [] rfl trivial ?_
 refine WL.nil ?_
 refine WC.condF rfl (by simp [e_W, e_H, e_Main_W, e_Main_H, e_Alt_W, e_Alt_H, e_OnAlt, e_X, e_Y, e_Wrap, e_A_Fg, e_A_Bg, e_A_Bold, e_A_Under, e_A_Turn, e_Top, e_Bot, e_NoWrap, e_Hide, e_SaveX, e_SaveY, e_SaveA_Fg, e_SaveA_Bg, e_SaveA_Bold, e_SaveA_Under, e_SaveA_Turn, e_Limit]) ?_
 refine WC.skip ?_
 refine hK24 _ _ ?_
 refine WC.seq (fun K27 hK27 => ?_)
 refine WC.rr tbk hs25 [1, 0] rfl ⟨rfl, rfl, trivial⟩ ?_
 refine WC.condF rfl (by simp [e_W, e_H, e_Main_W, e_Main_H, e_Alt_W, e_Alt_H, e_OnAlt, e_X, e_Y, e_Wrap, e_A_Fg, e_A_Bg, e_A_Bold, e_A_Under, e_A_Turn, e_Top, e_Bot, e_NoWrap, e_Hide, e_SaveX, e_SaveY, e_SaveA_Fg, e_SaveA_Bg, e_SaveA_Bold, e_SaveA_Under, e_SaveA_Turn, e_Limit]) ?_
 refine WC.skip ?_
 refine hK27 _ _ ?_
 refine WC.seq (fun K29 hK29 => ?_)
 refine WC.rr tbk hs25 [1, 0] rfl ⟨rfl, rfl, trivial⟩ ?_
 refine WC.condF rfl (by simp [e_W, e_H, e_Main_W, e_Main_H, e_Alt_W, e_Alt_H, e_OnAlt, e_X, e_Y, e_Wrap, e_A_Fg, e_A_Bg, e_A_Bold, e_A_Under, e_A_Turn, e_Top, e_Bot, e_NoWrap, e_Hide, e_SaveX, e_SaveY, e_SaveA_Fg, e_SaveA_Bg, e_SaveA_Bold, e_SaveA_Under, e_SaveA_Turn, e_Limit]) ?_
 refine WC.skip ?_
 refine hK29 _ _ ?_
 refine WC.seq (fun K31 hK31 => ?_)
 refine WC.rr tbk hs25 [1, 0] rfl ⟨rfl, rfl, trivial⟩ ?_
 refine WC.condF rfl (by simp [e_W, e_H, e_Main_W, e_Main_H, e_Alt_W, e_Alt_H, e_OnAlt, e_X, e_Y, e_Wrap, e_A_Fg, e_A_Bg, e_A_Bold, e_A_Under, e_A_Turn, e_Top, e_Bot, e_NoWrap, e_Hide, e_SaveX, e_SaveY, e_SaveA_Fg, e_SaveA_Bg, e_SaveA_Bold, e_SaveA_Under, e_SaveA_Turn, e_Limit]) ?_
 refine WC.skip ?_
 refine hK31 _ _ ?_
 refine WC.seq (fun K33 hK33 => ?_)
 refine WC.rr tbk hs25 [1, 0] rfl ⟨rfl, rfl, trivial⟩ ?_
 refine WC.condF rfl (by simp [e_W, e_H, e_Main_W, e_Main_H, e_Alt_W, e_Alt_H, e_OnAlt, e_X, e_Y, e_Wrap, e_A_Fg, e_A_Bg, e_A_Bold, e_A_Under, e_A_Turn, e_Top, e_Bot, e_NoWrap, e_Hide, e_SaveX, e_SaveY, e_SaveA_Fg, e_SaveA_Bg, e_SaveA_Bold, e_SaveA_Under, e_SaveA_Turn, e_Limit]) ?_
 refine WC.skip ?_
 refine hK33 _ _ ?_
 refine WC.seq (fun K35 hK35 => ?_)
 refine WC.rr tbk hs25 [1, 0] rfl ⟨rfl, rfl, trivial⟩ ?_
 refine WC.condF rfl (by simp [e_W, e_H, e_Main_W, e_Main_H, e_Alt_W, e_Alt_H, e_OnAlt, e_X, e_Y, e_Wrap, e_A_Fg, e_A_Bg, e_A_Bold, e_A_Under, e_A_Turn, e_Top, e_Bot, e_NoWrap, e_Hide, e_SaveX, e_SaveY, e_SaveA_Fg, e_SaveA_Bg, e_SaveA_Bold, e_SaveA_Under, e_SaveA_Turn, e_Limit]) ?_
 refine WC.skip ?_
 refine hK35 _ _ ?_
 refine WC.seq (fun K37 hK37 => ?_)
 refine WC.rr tbk hs25 [1, 0] rfl ⟨rfl, rfl, trivial⟩ ?_
 refine WC.condF rfl (by simp [e_W, e_H, e_Main_W, e_Main_H, e_Alt_W, e_Alt_H, e_OnAlt, e_X, e_Y, e_Wrap, e_A_Fg, e_A_Bg, e_A_Bold, e_A_Under, e_A_Turn, e_Top, e_Bot, e_NoWrap, e_Hide, e_SaveX, e_SaveY, e_SaveA_Fg, e_SaveA_Bg, e_SaveA_Bold, e_SaveA_Under, e_SaveA_Turn, e_Limit]) ?_
 refine WC.skip ?_
 refine hK37 _ _ ?_
 refine WC.seq (fun K39 hK39 => ?_)
 refine WC.sr ?_
 refine WL.run tbk 4 hs25 [1, 0] rfl ⟨rfl, rfl, trivial⟩ ?_
 refine WL.call rfl rfl rfl (Run.call Try.call94 rfl rfl rfl) (c_laws_eqAttr _ _ _ _ _ _ _ _ _ _ _ ?_) ?_
 · first | assumption | rfl | omega
 rintro _ whs40 ⟨rfl, hs40⟩
 replace hs40 := hs25.call0 hs40
 refine ⟨_, rfl, ?_⟩
 refine WL.run tbk 1 hs40 [] rfl trivial ?_
 refine WL.nil ?_
 refine WC.condF rfl (by simp [e_W, e_H, e_Main_W, e_Main_H, e_Alt_W, e_Alt_H, e_OnAlt, e_X, e_Y, e_Wrap, e_A_Fg, e_A_Bg, e_A_Bold, e_A_Under, e_A_Turn, e_Top, e_Bot, e_NoWrap, e_Hide, e_SaveX, e_SaveY, e_SaveA_Fg, e_SaveA_Bg, e_SaveA_Bold, e_SaveA_Under, e_SaveA_Turn, e_Limit]) ?_
 refine WC.skip ?_
 refine hK39 _ _ ?_
 refine WC.seq (fun K42 hK42 => ?_)
 refine WC.sr ?_
 refine WL.run tbk 4 hs40 [1, 0] rfl ⟨rfl, rfl, trivial⟩ ?_
 refine WL.call rfl rfl rfl (Run.call Try.call74 rfl rfl rfl) (c_laws_eqIntS _ _ _ _ _ _ _ _ _ (SlF.st0 f_a.Tabs hs40) (SlF.st0 f_b.Tabs hs40) ?_ ?_) ?_
 · first | assumption | rfl | omega
 · first | assumption | rfl | omega
 rintro _ whs43 ⟨rfl, hs43⟩
 replace hs43 := hs40.call0 hs43
 refine ⟨_, rfl, ?_⟩
 refine WL.run tbk 1 hs43 [] rfl trivial ?_
 refine WL.nil ?_
 refine WC.condF rfl (by simp [e_W, e_H, e_Main_W, e_Main_H, e_Alt_W, e_Alt_H, e_OnAlt, e_X, e_Y, e_Wrap, e_A_Fg, e_A_Bg, e_A_Bold, e_A_Under, e_A_Turn, e_Top, e_Bot, e_NoWrap, e_Hide, e_SaveX, e_SaveY, e_SaveA_Fg, e_SaveA_Bg, e_SaveA_Bold, e_SaveA_Under, e_SaveA_Turn, e_Limit]) ?_
 refine WC.skip ?_
 refine hK42 _ _ ?_
 refine WC.seq (fun K45 hK45 => ?_)
 refine WC.rr tbk hs43 [1, 0] rfl ⟨rfl, rfl, trivial⟩ ?_
 refine WC.condF rfl (by simp [e_W, e_H, e_Main_W, e_Main_H, e_Alt_W, e_Alt_H, e_OnAlt, e_X, e_Y, e_Wrap, e_A_Fg, e_A_Bg, e_A_Bold, e_A_Under, e_A_Turn, e_Top, e_Bot, e_NoWrap, e_Hide, e_SaveX, e_SaveY, e_SaveA_Fg, e_SaveA_Bg, e_SaveA_Bold, e_SaveA_Under, e_SaveA_Turn, e_Limit]) ?_
 refine WC.skip ?_
 refine hK45 _ _ ?_
 refine WC.seq (fun K47 hK47 => ?_)
 refine WC.sr ?_
 refine WL.run tbk 4 hs43 [1, 0] rfl ⟨rfl, rfl, trivial⟩ ?_
 refine WL.call rfl rfl rfl (Run.call Try.call95 rfl rfl rfl) (c_laws_eqRowS _ _ _ _ _ _ _ _ _ (SlN.st0 okRowR.st0 f_a.Back hs43) (SlN.st0 okRowR.st0 f_b.Back hs43) ?_ ?_) ?_
 · first | assumption | rfl | omega
 · first | assumption | rfl | omega
 rintro _ whs48 ⟨rfl, hs48⟩
 replace hs48 := hs43.call0 hs48
 refine ⟨_, rfl, ?_⟩
 refine WL.run tbk 1 hs48 [] rfl trivial ?_
 refine WL.nil ?_
 refine WC.condF rfl (by simp [e_W, e_H, e_Main_W, e_Main_H, e_Alt_W, e_Alt_H, e_OnAlt, e_X, e_Y, e_Wrap, e_A_Fg, e_A_Bg, e_A_Bold, e_A_Under, e_A_Turn, e_Top, e_Bot, e_NoWrap, e_Hide, e_SaveX, e_SaveY, e_SaveA_Fg, e_SaveA_Bg, e_SaveA_Bold, e_SaveA_Under, e_SaveA_Turn, e_Limit]) ?_
 refine WC.skip ?_
 refine hK47 _ _ ?_
 refine WC.rr tbk hs48 [] rfl trivial ?_
 refine WC.ret ?_
 refine retV1 rfl (resV.tmp rfl) ?_
 refine ⟨congrArg Ending.returned ?_, hs48.nil⟩
 rfl
set_option maxHeartbeats 4000000 in
theorem c_laws_szScr (a : ScrR) (left : Int) (w : World) (f_a : okScrR 9223372036854775807 w a) (h1 : 0 ≤ left) (h2 : left ≤ 1048576) :
    Calls Try.prog 39 #[.agg #[i64 a.W, i64 a.H, i64 a.Main.W, i64 a.Main.H, .slice a.Main.Cells.A a.Main.Cells.n a.Main.Cells.c, i64 a.Alt.W, i64 a.Alt.H, .slice a.Alt.Cells.A a.Alt.Cells.n a.Alt.Cells.c, .bool a.OnAlt, i64 a.X, i64 a.Y, .bool a.Wrap, i64 a.A.Fg, i64 a.A.Bg, .bool a.A.Bold, .bool a.A.Under, .bool a.A.Turn, i64 a.Top, i64 a.Bot, .bool a.NoWrap, .bool a.Hide, i64 a.SaveX, i64 a.SaveY, i64 a.SaveA.Fg, i64 a.SaveA.Bg, .bool a.SaveA.Bold, .bool a.SaveA.Under, .bool a.SaveA.Turn, .slice a.Tabs.A a.Tabs.n a.Tabs.c, i64 a.Limit, .slice a.Back.A a.Back.n a.Back.c], i64 left] w fun e w' => e = .returned (.int .i64 (szR left (totScr a.dat))) ∧ St w [] [] w' := by
 have nb_a_Main_Cells := f_a.Main.Cells_n
 have nl_a_Main_Cells := f_a.Main.Cells.len
 have nb_a_Alt_Cells := f_a.Alt.Cells_n
 have nl_a_Alt_Cells := f_a.Alt.Cells.len
 have nb_a_Tabs := f_a.Tabs_n
 have nl_a_Tabs := f_a.Tabs.len
 have nb_a_Back := f_a.Back_n
 have nl_a_Back := f_a.Back.sl.len
 refine enter (vs := [.agg #[i64 a.W, i64 a.H, i64 a.Main.W, i64 a.Main.H, .slice a.Main.Cells.A a.Main.Cells.n a.Main.Cells.c, i64 a.Alt.W, i64 a.Alt.H, .slice a.Alt.Cells.A a.Alt.Cells.n a.Alt.Cells.c, .bool a.OnAlt, i64 a.X, i64 a.Y, .bool a.Wrap, i64 a.A.Fg, i64 a.A.Bg, .bool a.A.Bold, .bool a.A.Under, .bool a.A.Turn, i64 a.Top, i64 a.Bot, .bool a.NoWrap, .bool a.Hide, i64 a.SaveX, i64 a.SaveY, i64 a.SaveA.Fg, i64 a.SaveA.Bg, .bool a.SaveA.Bold, .bool a.SaveA.Under, .bool a.SaveA.Turn, .slice a.Tabs.A a.Tabs.n a.Tabs.c, i64 a.Limit, .slice a.Back.A a.Back.n a.Back.c], i64 left]) 30 Try.func39 rfl Try.ntmps39 rfl rfl ?_
 have hs1 := St.init w
 refine WC.sr ?_
 refine WL.bx hs1 rfl (fun b2 _ hs3 => ?_)
 refine WL.run tbk 1 hs3 [] rfl trivial ?_
 refine WL.nil ?_
 refine WC.sr ?_
 refine WL.run tbk 3 hs3 [0] rfl ⟨rfl, trivial⟩ ?_
 refine WL.call rfl rfl rfl (Run.call Try.call79 rfl rfl rfl) (c_laws_szGrid a.Main _ _ (okGridR.st0 f_a.Main hs3) ?_ ?_) ?_
 · first | assumption | omega
 · first | assumption | omega | exact szR_b (by assumption) (by omega) (by first | assumption | omega)
 rintro _ whs4 ⟨rfl, hs4⟩
 replace hs4 := hs3.call0 hs4
 refine ⟨_, rfl, ?_⟩
 refine WL.run tbk 1 hs4 [] rfl trivial ?_
 refine WL.nil ?_
 refine WC.seq (fun K5 hK5 => ?_)
 refine WC.rr tbk hs4 [] rfl trivial ?_
 refine WC.cD rfl (fun qh6 => ?_) (fun qh6 => ?_)
 ·try have soh6 := szR_ok qh6 (by omega)
  try have sbh6 := szR_b qh6 (by omega) (by first | assumption | omega)
  try have snh6 := szR_no qh6
  refine WC.rr tbk hs4 [] rfl trivial ?_
  refine WC.ret ?_
  refine tkR ?_
  clear hK5
  refine retV1 rfl (resV.tmp rfl) ?_
  refine ⟨congrArg Ending.returned ?_, hs4.nil⟩
  simp only [totGrid, totScr, GridR.dat, ScrR.dat] at *; first | (rw [szR_lt (by omega)]; done) | (refine congrArg (Value.int _) ?_; symm; refine (szR_le ?_).trans ?_ <;> omega) | rfl
 ·try have soh6 := szR_ok qh6 (by omega)
  try have sbh6 := szR_b qh6 (by omega) (by first | assumption | omega)
  try have snh6 := szR_no qh6
  refine WC.skip ?_
  refine hK5 _ _ ?_
  refine WC.sr ?_
  refine WL.run tbk 3 hs4 [0] rfl ⟨rfl, trivial⟩ ?_
  refine WL.call rfl rfl rfl (Run.call Try.call79 rfl rfl rfl) (c_laws_szGrid a.Alt _ _ (okGridR.st0 f_a.Alt hs4) ?_ ?_) ?_
  · first | assumption | omega
  · first | assumption | omega | exact szR_b (by assumption) (by omega) (by first | assumption | omega)
  rintro _ whs7 ⟨rfl, hs7⟩
  replace hs7 := hs4.call0 hs7
  refine ⟨_, rfl, ?_⟩
  refine WL.run tbk 1 hs7 [] rfl trivial ?_
  refine WL.nil ?_
  refine WC.seq (fun K8 hK8 => ?_)
  refine WC.rr tbk hs7 [] rfl trivial ?_
  refine WC.cD rfl (fun qh9 => ?_) (fun qh9 => ?_)
  ·try have soh9 := szR_ok qh9 (by omega)
   try have sbh9 := szR_b qh9 (by omega) (by first | assumption | omega)
   try have snh9 := szR_no qh9
   refine WC.rr tbk hs7 [] rfl trivial ?_
   refine WC.ret ?_
   refine tkR ?_
   clear hK8
   refine retV1 rfl (resV.tmp rfl) ?_
   refine ⟨congrArg Ending.returned ?_, hs7.nil⟩
   simp only [totGrid, totScr, GridR.dat, ScrR.dat] at *; first | (rw [szR_lt (by omega)]; done) | (refine congrArg (Value.int _) ?_; symm; refine (szR_le ?_).trans ?_ <;> omega) | rfl
  ·try have soh9 := szR_ok qh9 (by omega)
   try have sbh9 := szR_b qh9 (by omega) (by first | assumption | omega)
   try have snh9 := szR_no qh9
   refine WC.skip ?_
   refine hK8 _ _ ?_
   refine WC.sr ?_
   refine WL.run tbk 3 hs7 [0] rfl ⟨rfl, trivial⟩ ?_
   refine WL.call rfl rfl rfl (Run.call Try.call64 rfl rfl rfl) (c_laws_szIntS _ _ _ _ _ _ (SlF.st0 f_a.Tabs hs7) ?_ ?_ ?_) ?_
   · first | assumption | omega
   · first | assumption | omega | exact szR_b (by assumption) (by omega) (by first | assumption | omega)
   · first | assumption | omega
   rintro _ whs10 ⟨rfl, hs10⟩
   replace hs10 := hs7.call0 hs10
   refine ⟨_, rfl, ?_⟩
   refine WL.run tbk 1 hs10 [] rfl trivial ?_
   refine WL.nil ?_
   refine WC.seq (fun K11 hK11 => ?_)
   refine WC.rr tbk hs10 [] rfl trivial ?_
   refine WC.cD rfl (fun qh12 => ?_) (fun qh12 => ?_)
   ·try have soh12 := szR_ok qh12 (by omega)
    try have sbh12 := szR_b qh12 (by omega) (by first | assumption | omega)
    try have snh12 := szR_no qh12
    refine WC.rr tbk hs10 [] rfl trivial ?_
    refine WC.ret ?_
    refine tkR ?_
    clear hK11
    refine retV1 rfl (resV.tmp rfl) ?_
    refine ⟨congrArg Ending.returned ?_, hs10.nil⟩
    simp only [totGrid, totScr, GridR.dat, ScrR.dat] at *; first | (rw [szR_lt (by omega)]; done) | (refine congrArg (Value.int _) ?_; symm; refine (szR_le ?_).trans ?_ <;> omega) | rfl
   ·try have soh12 := szR_ok qh12 (by omega)
    try have sbh12 := szR_b qh12 (by omega) (by first | assumption | omega)
    try have snh12 := szR_no qh12
    refine WC.skip ?_
    refine hK11 _ _ ?_
    refine WC.sr ?_
    refine WL.run tbk 3 hs10 [0] rfl ⟨rfl, trivial⟩ ?_
    refine WL.call rfl rfl rfl (Run.call Try.call80 rfl rfl rfl) (c_laws_szRowS _ _ _ _ _ _ (SlN.st0 okRowR.st0 f_a.Back hs10) ?_ ?_ ?_) ?_
    · first | assumption | omega
    · first | assumption | omega | exact szR_b (by assumption) (by omega) (by first | assumption | omega)
    · first | assumption | omega
    rintro _ whs13 ⟨rfl, hs13⟩
    replace hs13 := hs10.call0 hs13
    refine ⟨_, rfl, ?_⟩
    refine WL.run tbk 1 hs13 [] rfl trivial ?_
    refine WL.nil ?_
    refine WC.seq (fun K14 hK14 => ?_)
    refine WC.rr tbk hs13 [] rfl trivial ?_
    refine WC.cD rfl (fun qh15 => ?_) (fun qh15 => ?_)
    ·try have soh15 := szR_ok qh15 (by omega)
     try have sbh15 := szR_b qh15 (by omega) (by first | assumption | omega)
     try have snh15 := szR_no qh15
     refine WC.rr tbk hs13 [] rfl trivial ?_
     refine WC.ret ?_
     refine tkR ?_
     clear hK14
     refine retV1 rfl (resV.tmp rfl) ?_
     refine ⟨congrArg Ending.returned ?_, hs13.nil⟩
     simp only [totGrid, totScr, GridR.dat, ScrR.dat] at *; first | (rw [szR_lt (by omega)]; done) | (refine congrArg (Value.int _) ?_; symm; refine (szR_le ?_).trans ?_ <;> omega) | rfl
    ·try have soh15 := szR_ok qh15 (by omega)
     try have sbh15 := szR_b qh15 (by omega) (by first | assumption | omega)
     try have snh15 := szR_no qh15
     refine WC.skip ?_
     refine hK14 _ _ ?_
     refine WC.rr tbk hs13 [] rfl trivial ?_
     refine WC.ret ?_
     refine retV1 rfl (resV.tmp rfl) ?_
     refine ⟨congrArg Ending.returned ?_, hs13.nil⟩
     simp only [totGrid, totScr, GridR.dat, ScrR.dat] at *; first | (rw [szR_lt (by omega)]; done) | (refine congrArg (Value.int _) ?_; symm; refine (szR_le ?_).trans ?_ <;> omega) | rfl
set_option maxHeartbeats 4000000 in
theorem c_laws_markScr (a : ScrR) (L_a : Hp) (k : Int) (w : World) (o_a : ownScrR a L_a) (h_a : ∀ p, p ∈ L_a → w.heap[p.1]? = some p.2) (hd_ : ((L_a).map (·.1)).Nodup) (h1 : 0 ≤ k) (h2 : endScr k a ≤ 549755813888) (hb_Back : a.Back.xs.length ≤ 549755813888) :
    Calls Try.prog 44 #[.agg #[i64 a.W, i64 a.H, i64 a.Main.W, i64 a.Main.H, .slice a.Main.Cells.A a.Main.Cells.n a.Main.Cells.c, i64 a.Alt.W, i64 a.Alt.H, .slice a.Alt.Cells.A a.Alt.Cells.n a.Alt.Cells.c, .bool a.OnAlt, i64 a.X, i64 a.Y, .bool a.Wrap, i64 a.A.Fg, i64 a.A.Bg, .bool a.A.Bold, .bool a.A.Under, .bool a.A.Turn, i64 a.Top, i64 a.Bot, .bool a.NoWrap, .bool a.Hide, i64 a.SaveX, i64 a.SaveY, i64 a.SaveA.Fg, i64 a.SaveA.Bg, .bool a.SaveA.Bold, .bool a.SaveA.Under, .bool a.SaveA.Turn, .slice a.Tabs.A a.Tabs.n a.Tabs.c, i64 a.Limit, .slice a.Back.A a.Back.n a.Back.c], i64 k] w fun e w' => ∃ L1, e = .returned (.int .i64 (endScr k a)) ∧ St w (L_a.map (·.1)) L1 w' ∧ ownScrR (markScr k a) L1 := by
 have hq2 := h2
 simp only [endGrid, endScr] at hq2
 have hcn_Back := cnts_nonneg (c := cntERow) (fun x => by simp only [cntERow]; omega) a.Back.xs
 refine enter (vs := [.agg #[i64 a.W, i64 a.H, i64 a.Main.W, i64 a.Main.H, .slice a.Main.Cells.A a.Main.Cells.n a.Main.Cells.c, i64 a.Alt.W, i64 a.Alt.H, .slice a.Alt.Cells.A a.Alt.Cells.n a.Alt.Cells.c, .bool a.OnAlt, i64 a.X, i64 a.Y, .bool a.Wrap, i64 a.A.Fg, i64 a.A.Bg, .bool a.A.Bold, .bool a.A.Under, .bool a.A.Turn, i64 a.Top, i64 a.Bot, .bool a.NoWrap, .bool a.Hide, i64 a.SaveX, i64 a.SaveY, i64 a.SaveA.Fg, i64 a.SaveA.Bg, .bool a.SaveA.Bold, .bool a.SaveA.Under, .bool a.SaveA.Turn, .slice a.Tabs.A a.Tabs.n a.Tabs.c, i64 a.Limit, .slice a.Back.A a.Back.n a.Back.c], i64 k]) 22 Try.func44 rfl Try.ntmps44 rfl rfl ?_
 have hs1 := St.takes1 w L_a h_a hd_
 refine WC.sr ?_
 refine WL.bx hs1 rfl (fun b2 _ hs3 => ?_)
 refine WL.run tbk 1 hs3 [] rfl trivial ?_
 refine WL.nil ?_
 refine WC.sr ?_
 refine WL.run tbk 3 hs3 [0] rfl ⟨rfl, trivial⟩ ?_
 obtain ⟨L4, L5, L6, L7, hs12, ho8, ho9, ho10, ho11⟩ := ownScrR.open_ (St.perm hs3 (L' := L_a ++ _) (perm_front (A := [_]) (List.Perm.refl _))) o_a
 have hs13 := (St.perm hs12 (L' := [_] ++ _) (perm_front (A := L4) (perm_front (A := L5) (perm_front (A := L6) (perm_front (A := L7) (List.Perm.refl _))))))
 refine WL.call rfl rfl rfl (Run.call Try.call96 rfl rfl rfl) (c_laws_markGrid ⟨a.Main.W, a.Main.H, SlD.of ho8⟩ _ _ _ ho8 (fun p_ hp_ => (hs13.own p_ (List.mem_append_right [_] (List.mem_append_left _ hp_))).1) (St.nodupL (St.perm hs13 (L' := L4 ++ _) (perm_front (A := [_]) (List.Perm.refl _)))) ?_ ?_) ?_
 · first | (first | assumption | omega) | (simp only [endGrid, endScr]; omega)
 · first | (first | assumption | omega | (simp only [endGrid]; omega)) | (simp only [endGrid, endScr]; omega)
 rintro _ whs14 ⟨L1_15, rfl, hs14, ho16⟩
 replace hs14 := St.lend (St.perm hs13 (L' := L4 ++ _) (perm_front (A := [_]) (List.Perm.refl _))) hs14
 refine ⟨_, rfl, ?_⟩
 replace hs14 := St.back [_] hs14
 refine WL.run tbk 1 hs14 [] rfl trivial ?_
 refine WL.nil ?_
 refine WC.sr ?_
 refine WL.run tbk 3 hs14 [0] rfl ⟨rfl, trivial⟩ ?_
 refine WL.call rfl rfl rfl (Run.call Try.call96 rfl rfl rfl) (c_laws_markGrid ⟨a.Alt.W, a.Alt.H, SlD.of ho9⟩ _ _ _ ho9 (fun p_ hp_ => (hs14.own p_ (List.mem_append_right [_] (List.mem_append_right _ (List.mem_append_left _ hp_)))).1) (St.nodupL (St.perm hs14 (L' := L5 ++ _) (perm_front (A := [_]) (perm_front (A := L1_15) (List.Perm.refl _))))) ?_ ?_) ?_
 · first | (first | assumption | omega) | (simp only [endGrid, endScr]; omega)
 · first | (first | assumption | omega | (simp only [endGrid]; omega)) | (simp only [endGrid, endScr]; omega)
 rintro _ whs17 ⟨L1_18, rfl, hs17, ho19⟩
 replace hs17 := St.lend (St.perm hs14 (L' := L5 ++ _) (perm_front (A := [_]) (perm_front (A := L1_15) (List.Perm.refl _)))) hs17
 refine ⟨_, rfl, ?_⟩
 replace hs17 := St.back [_] hs17
 refine WL.run tbk 1 hs17 [] rfl trivial ?_
 refine WL.nil ?_
 refine WC.sr ?_
 refine WL.run tbk 3 hs17 [0] rfl ⟨rfl, trivial⟩ ?_
 refine WL.call rfl rfl rfl (Run.call Try.call75 rfl rfl rfl) (c_laws_markIntS _ _ _ _ _ ho10 (fun p_ hp_ => (hs17.own p_ (List.mem_append_right [_] (List.mem_append_right _ (List.mem_append_right _ (List.mem_append_left _ hp_))))).1) ?_ ?_ ?_) ?_
 · first | (first | assumption | rfl | omega) | (simp only [endGrid, endScr]; omega)
 · first | (first | assumption | rfl | omega) | (simp only [endGrid, endScr]; omega)
 · first | (first | assumption | rfl | omega) | (simp only [endGrid, endScr]; omega)
 rintro _ whs20 ⟨L1_21, rfl, hs20, ho22⟩
 replace hs20 := St.lend (St.perm hs17 (L' := L6 ++ _) (perm_front (A := [_]) (perm_front (A := L1_18) (perm_front (A := L1_15) (List.Perm.refl _))))) hs20
 refine ⟨_, rfl, ?_⟩
 replace hs20 := St.back [_] hs20
 refine WL.run tbk 1 hs20 [] rfl trivial ?_
 refine WL.nil ?_
 refine WC.sr ?_
 refine WL.run tbk 3 hs20 [0] rfl ⟨rfl, trivial⟩ ?_
 refine WL.call rfl rfl rfl (Run.call Try.call97 rfl rfl rfl) (c_laws_markRowS _ _ _ _ _ ho11 (fun p_ hp_ => (hs20.own p_ (List.mem_append_right [_] (List.mem_append_right _ (List.mem_append_right _ (List.mem_append_right _ (List.mem_append_left _ hp_)))))).1) (St.nodupL (St.perm hs20 (L' := L7 ++ _) (perm_front (A := [_]) (perm_front (A := L1_21) (perm_front (A := L1_18) (perm_front (A := L1_15) (List.Perm.refl _))))))) ?_ ?_ ?_) ?_
 · first | (first | assumption | omega) | (simp only [endGrid, endScr]; omega)
 · first | (first | assumption | omega) | (simp only [endGrid, endScr]; omega)
 · first | (first | assumption | omega) | (simp only [endGrid, endScr]; omega)
 rintro _ whs23 ⟨L1_24, rfl, hs23, ho25⟩
 replace hs23 := St.lend (St.perm hs20 (L' := L7 ++ _) (perm_front (A := [_]) (perm_front (A := L1_21) (perm_front (A := L1_18) (perm_front (A := L1_15) (List.Perm.refl _)))))) hs23
 refine ⟨_, rfl, ?_⟩
 replace hs23 := St.back [_] hs23
 refine WL.run tbk 1 hs23 [] rfl trivial ?_
 refine WL.nil ?_
 refine WC.rr tbk hs23 [] rfl trivial ?_
 refine WC.ret ?_
 refine retV1 rfl (resV.tmp rfl) ?_
 obtain ⟨L27, hs26, ho28⟩ := ownScrR.fold ⟨0, 0, ⟨0, 0, ⟨_, _, _, _⟩⟩, ⟨0, 0, ⟨_, _, _, _⟩⟩, false, 0, 0, false, ⟨0, 0, false, false, false⟩, 0, 0, false, false, 0, 0, ⟨0, 0, false, false, false⟩, ⟨_, _, _, _⟩, 0, ⟨_, _, _, _⟩⟩ (St.perm (St.perm (St.perm (St.perm hs23 (L' := L1_24 ++ _) (perm_front (A := [_]) (List.Perm.refl _))) (L' := L1_21 ++ _) (perm_front (A := L1_24) (perm_front (A := [_]) (List.Perm.refl _)))) (L' := L1_18 ++ _) (perm_front (A := L1_21) (perm_front (A := L1_24) (perm_front (A := [_]) (List.Perm.refl _))))) (L' := L1_15 ++ _) (perm_front (A := L1_18) (perm_front (A := L1_21) (perm_front (A := L1_24) (perm_front (A := [_]) (List.Perm.refl _)))))) ho16 ho19 ho22 ho25
 have hs29 := (St.perm hs26 (L' := [_] ++ _) (perm_front (A := L27) (List.Perm.refl _)))
 refine ⟨_, congrArg Ending.returned ?_, (St.keep1 (St.perm hs29 (L' := L27 ++ _) (perm_front (A := [_]) (List.Perm.refl _)))), (by exact ho28)⟩
 first | rfl | (simp [endScr]; done) | (simp [endScr]; omega)
set_option maxHeartbeats 4000000 in
theorem c_laws_heldScr (a : ScrR) (k : Int) (w : World) (f_a : okScrR 549755813888 w (markScr k a)) (h1 : 0 ≤ k) (h2 : endScr k a ≤ 549755813888) :
    Calls Try.prog 45 #[.agg #[i64 a.W, i64 a.H, i64 a.Main.W, i64 a.Main.H, .slice a.Main.Cells.A a.Main.Cells.n a.Main.Cells.c, i64 a.Alt.W, i64 a.Alt.H, .slice a.Alt.Cells.A a.Alt.Cells.n a.Alt.Cells.c, .bool a.OnAlt, i64 a.X, i64 a.Y, .bool a.Wrap, i64 a.A.Fg, i64 a.A.Bg, .bool a.A.Bold, .bool a.A.Under, .bool a.A.Turn, i64 a.Top, i64 a.Bot, .bool a.NoWrap, .bool a.Hide, i64 a.SaveX, i64 a.SaveY, i64 a.SaveA.Fg, i64 a.SaveA.Bg, .bool a.SaveA.Bold, .bool a.SaveA.Under, .bool a.SaveA.Turn, .slice a.Tabs.A a.Tabs.n a.Tabs.c, i64 a.Limit, .slice a.Back.A a.Back.n a.Back.c], i64 k] w fun e w' => e = .returned (.int .i64 (endScr k a)) ∧ St w [] [] w' := by
 have fm_Main : okGridR 549755813888 w (markGrid k a.Main) := f_a.Main
 have fm_Alt : okGridR 549755813888 w (markGrid (endGrid k a.Main) a.Alt) := f_a.Alt
 have nb_Main_Cells : a.Main.Cells.n ≤ 549755813888 := f_a.Main.Cells_n
 have nl_Main_Cells : a.Main.Cells.xs.length = a.Main.Cells.n := by have h_ := f_a.Main.Cells.len; simpa [markGrid, markScr, marks_len, mrks_len] using h_
 have nb_Alt_Cells : a.Alt.Cells.n ≤ 549755813888 := f_a.Alt.Cells_n
 have nl_Alt_Cells : a.Alt.Cells.xs.length = a.Alt.Cells.n := by have h_ := f_a.Alt.Cells.len; simpa [markGrid, markScr, marks_len, mrks_len] using h_
 have nb_Tabs : a.Tabs.n ≤ 549755813888 := f_a.Tabs_n
 have nl_Tabs : a.Tabs.xs.length = a.Tabs.n := by have h_ := f_a.Tabs.len; simpa [markGrid, markScr, marks_len, mrks_len] using h_
 have nb_Back : a.Back.n ≤ 549755813888 := f_a.Back_n
 have nl_Back : a.Back.xs.length = a.Back.n := by have h_ := f_a.Back.sl.len; simpa [markGrid, markScr, marks_len, mrks_len] using h_
 have fm_Main : okGridR 549755813888 w (markGrid k a.Main) := f_a.Main
 have fm_Alt : okGridR 549755813888 w (markGrid (endGrid k a.Main) a.Alt) := f_a.Alt
 have nb_Main_Cells : a.Main.Cells.n ≤ 549755813888 := f_a.Main.Cells_n
 have nl_Main_Cells : a.Main.Cells.xs.length = a.Main.Cells.n := by have h_ := f_a.Main.Cells.len; simpa [markGrid, markScr, marks_len, mrks_len] using h_
 have nb_Alt_Cells : a.Alt.Cells.n ≤ 549755813888 := f_a.Alt.Cells_n
 have nl_Alt_Cells : a.Alt.Cells.xs.length = a.Alt.Cells.n := by have h_ := f_a.Alt.Cells.len; simpa [markGrid, markScr, marks_len, mrks_len] using h_
 have nb_Tabs : a.Tabs.n ≤ 549755813888 := f_a.Tabs_n
 have nl_Tabs : a.Tabs.xs.length = a.Tabs.n := by have h_ := f_a.Tabs.len; simpa [markGrid, markScr, marks_len, mrks_len] using h_
 have nb_Back : a.Back.n ≤ 549755813888 := f_a.Back_n
 have nl_Back : a.Back.xs.length = a.Back.n := by have h_ := f_a.Back.sl.len; simpa [markGrid, markScr, marks_len, mrks_len] using h_
 have hq2 := h2
 simp only [endGrid, endScr] at hq2
 have hcn_Back := cnts_nonneg (c := cntERow) (fun x => by simp only [cntERow]; omega) a.Back.xs
 refine enter (vs := [.agg #[i64 a.W, i64 a.H, i64 a.Main.W, i64 a.Main.H, .slice a.Main.Cells.A a.Main.Cells.n a.Main.Cells.c, i64 a.Alt.W, i64 a.Alt.H, .slice a.Alt.Cells.A a.Alt.Cells.n a.Alt.Cells.c, .bool a.OnAlt, i64 a.X, i64 a.Y, .bool a.Wrap, i64 a.A.Fg, i64 a.A.Bg, .bool a.A.Bold, .bool a.A.Under, .bool a.A.Turn, i64 a.Top, i64 a.Bot, .bool a.NoWrap, .bool a.Hide, i64 a.SaveX, i64 a.SaveY, i64 a.SaveA.Fg, i64 a.SaveA.Bg, .bool a.SaveA.Bold, .bool a.SaveA.Under, .bool a.SaveA.Turn, .slice a.Tabs.A a.Tabs.n a.Tabs.c, i64 a.Limit, .slice a.Back.A a.Back.n a.Back.c], i64 k]) 30 Try.func45 rfl Try.ntmps45 rfl rfl ?_
 have hs1 := St.init w
 refine WC.sr ?_
 refine WL.bx hs1 rfl (fun b2 _ hs3 => ?_)
 refine WL.run tbk 1 hs3 [] rfl trivial ?_
 refine WL.nil ?_
 refine WC.sr ?_
 refine WL.run tbk 3 hs3 [0] rfl ⟨rfl, trivial⟩ ?_
 refine WL.call rfl rfl rfl (Run.call Try.call98 rfl rfl rfl) (c_laws_heldGrid _ _ _ (okGridR.st0 fm_Main hs3) ?_ ?_) ?_
 · first | (first | assumption | omega) | (simp only [endGrid, endScr]; omega)
 · first | (first | assumption | omega | (simp only [endGrid]; omega)) | (simp only [endGrid, endScr]; omega)
 rintro _ whs4 ⟨rfl, hs4⟩
 replace hs4 := hs3.call0 hs4
 refine ⟨_, rfl, ?_⟩
 refine WL.run tbk 1 hs4 [] rfl trivial ?_
 refine WL.nil ?_
 refine WC.seq (fun K5 hK5 => ?_)
 refine WC.rr tbk hs4 [] rfl trivial ?_
 refine WC.condF rfl (by first | (simp; omega) | (rw [decide_eq_false_iff_not]; simp only [endGrid, endScr]; omega)) ?_
 refine WC.skip ?_
 refine hK5 _ _ ?_
 refine WC.sr ?_
 refine WL.run tbk 3 hs4 [0] rfl ⟨rfl, trivial⟩ ?_
 refine WL.call rfl rfl rfl (Run.call Try.call98 rfl rfl rfl) (c_laws_heldGrid _ _ _ (okGridR.st0 fm_Alt hs4) ?_ ?_) ?_
 · first | (first | assumption | omega) | (simp only [endGrid, endScr]; omega)
 · first | (first | assumption | omega | (simp only [endGrid]; omega)) | (simp only [endGrid, endScr]; omega)
 rintro _ whs7 ⟨rfl, hs7⟩
 replace hs7 := hs4.call0 hs7
 refine ⟨_, rfl, ?_⟩
 refine WL.run tbk 1 hs7 [] rfl trivial ?_
 refine WL.nil ?_
 refine WC.seq (fun K8 hK8 => ?_)
 refine WC.rr tbk hs7 [] rfl trivial ?_
 refine WC.condF rfl (by first | (simp; omega) | (rw [decide_eq_false_iff_not]; simp only [endGrid, endScr]; omega)) ?_
 refine WC.skip ?_
 refine hK8 _ _ ?_
 refine WC.sr ?_
 refine WL.run tbk 3 hs7 [0] rfl ⟨rfl, trivial⟩ ?_
 refine WL.call rfl rfl rfl (Run.call Try.call76 rfl rfl rfl) (c_laws_heldIntS _ _ _ _ _ _ _ (SlF.st0 f_a.Tabs hs7) rfl ?_ ?_ ?_) ?_
 · first | (first | assumption | rfl | omega) | (simp only [endGrid, endScr]; omega)
 · first | (first | assumption | rfl | omega) | (simp only [endGrid, endScr]; omega)
 · first | (first | assumption | rfl | omega) | (simp only [endGrid, endScr]; omega)
 rintro _ whs10 ⟨rfl, hs10⟩
 replace hs10 := hs7.call0 hs10
 refine ⟨_, rfl, ?_⟩
 refine WL.run tbk 1 hs10 [] rfl trivial ?_
 refine WL.nil ?_
 refine WC.seq (fun K11 hK11 => ?_)
 refine WC.rr tbk hs10 [] rfl trivial ?_
 refine WC.condF rfl (by first | (simp; omega) | (rw [decide_eq_false_iff_not]; simp only [endGrid, endScr]; omega)) ?_
 refine WC.skip ?_
 refine hK11 _ _ ?_
 refine WC.sr ?_
 refine WL.run tbk 3 hs10 [0] rfl ⟨rfl, trivial⟩ ?_
 refine WL.call rfl rfl rfl (Run.call Try.call99 rfl rfl rfl) (c_laws_heldRowS _ _ _ _ _ _ (SlN.st0 okRowR.st0 f_a.Back hs10) ?_ ?_ ?_) ?_
 · first | (first | assumption | omega) | (simp only [endGrid, endScr]; omega)
 · first | (first | assumption | omega) | (simp only [endGrid, endScr]; omega)
 · first | (first | assumption | omega) | (simp only [endGrid, endScr]; omega)
 rintro _ whs13 ⟨rfl, hs13⟩
 replace hs13 := hs10.call0 hs13
 refine ⟨_, rfl, ?_⟩
 refine WL.run tbk 1 hs13 [] rfl trivial ?_
 refine WL.nil ?_
 refine WC.seq (fun K14 hK14 => ?_)
 refine WC.rr tbk hs13 [] rfl trivial ?_
 refine WC.condF rfl (by first | (simp; omega) | (rw [decide_eq_false_iff_not]; simp only [endGrid, endScr]; omega)) ?_
 refine WC.skip ?_
 refine hK14 _ _ ?_
 refine WC.rr tbk hs13 [] rfl trivial ?_
 refine WC.ret ?_
 refine retV1 rfl (resV.tmp rfl) ?_
 refine ⟨congrArg Ending.returned ?_, hs13.nil⟩
 first | rfl | (simp [endGrid, endScr, *]; done) | (simp [endGrid, endScr, *]; omega)
set_option maxHeartbeats 4000000 in
theorem c_laws_toTerm (a : TermR) (w : World) (f_a : okTermR 549755813888 w a) :
    Calls Try.prog 37 #[.agg #[i64 a.P.State, .bool a.P.Mark, .slice a.P.Args.A a.P.Args.n a.P.Args.c, .slice a.P.Part.A a.P.Part.n a.P.Part.c, i64 a.S.W, i64 a.S.H, i64 a.S.Main.W, i64 a.S.Main.H, .slice a.S.Main.Cells.A a.S.Main.Cells.n a.S.Main.Cells.c, i64 a.S.Alt.W, i64 a.S.Alt.H, .slice a.S.Alt.Cells.A a.S.Alt.Cells.n a.S.Alt.Cells.c, .bool a.S.OnAlt, i64 a.S.X, i64 a.S.Y, .bool a.S.Wrap, i64 a.S.A.Fg, i64 a.S.A.Bg, .bool a.S.A.Bold, .bool a.S.A.Under, .bool a.S.A.Turn, i64 a.S.Top, i64 a.S.Bot, .bool a.S.NoWrap, .bool a.S.Hide, i64 a.S.SaveX, i64 a.S.SaveY, i64 a.S.SaveA.Fg, i64 a.S.SaveA.Bg, .bool a.S.SaveA.Bold, .bool a.S.SaveA.Under, .bool a.S.SaveA.Turn, .slice a.S.Tabs.A a.S.Tabs.n a.S.Tabs.c, i64 a.S.Limit, .slice a.S.Back.A a.S.Back.n a.S.Back.c]] w fun e w' => ∃ r L1, e = .returned (.agg #[i64 r.P.State, .bool r.P.Mark, .slice r.P.Args.A r.P.Args.n r.P.Args.c, .slice r.P.Part.A r.P.Part.n r.P.Part.c, i64 r.S.W, i64 r.S.H, i64 r.S.Main.W, i64 r.S.Main.H, .slice r.S.Main.Cells.A r.S.Main.Cells.n r.S.Main.Cells.c, i64 r.S.Alt.W, i64 r.S.Alt.H, .slice r.S.Alt.Cells.A r.S.Alt.Cells.n r.S.Alt.Cells.c, .bool r.S.OnAlt, i64 r.S.X, i64 r.S.Y, .bool r.S.Wrap, i64 r.S.A.Fg, i64 r.S.A.Bg, .bool r.S.A.Bold, .bool r.S.A.Under, .bool r.S.A.Turn, i64 r.S.Top, i64 r.S.Bot, .bool r.S.NoWrap, .bool r.S.Hide, i64 r.S.SaveX, i64 r.S.SaveY, i64 r.S.SaveA.Fg, i64 r.S.SaveA.Bg, .bool r.S.SaveA.Bold, .bool r.S.SaveA.Under, .bool r.S.SaveA.Turn, .slice r.S.Tabs.A r.S.Tabs.n r.S.Tabs.c, i64 r.S.Limit, .slice r.S.Back.A r.S.Back.n r.S.Back.c]) ∧ St w [] L1 w' ∧ ownTermR r L1 ∧ r.dat = a.dat := by
 have nb_a_P_Args := f_a.P.Args_n
 have nl_a_P_Args := f_a.P.Args.len
 have nb_a_P_Part := f_a.P.Part_n
 have nl_a_P_Part := f_a.P.Part.len
 have nb_a_S_Main_Cells := f_a.S.Main.Cells_n
 have nl_a_S_Main_Cells := f_a.S.Main.Cells.len
 have nb_a_S_Alt_Cells := f_a.S.Alt.Cells_n
 have nl_a_S_Alt_Cells := f_a.S.Alt.Cells.len
 have nb_a_S_Tabs := f_a.S.Tabs_n
 have nl_a_S_Tabs := f_a.S.Tabs.len
 have nb_a_S_Back := f_a.S.Back_n
 have nl_a_S_Back := f_a.S.Back.sl.len
 refine enter (vs := [.agg #[i64 a.P.State, .bool a.P.Mark, .slice a.P.Args.A a.P.Args.n a.P.Args.c, .slice a.P.Part.A a.P.Part.n a.P.Part.c, i64 a.S.W, i64 a.S.H, i64 a.S.Main.W, i64 a.S.Main.H, .slice a.S.Main.Cells.A a.S.Main.Cells.n a.S.Main.Cells.c, i64 a.S.Alt.W, i64 a.S.Alt.H, .slice a.S.Alt.Cells.A a.S.Alt.Cells.n a.S.Alt.Cells.c, .bool a.S.OnAlt, i64 a.S.X, i64 a.S.Y, .bool a.S.Wrap, i64 a.S.A.Fg, i64 a.S.A.Bg, .bool a.S.A.Bold, .bool a.S.A.Under, .bool a.S.A.Turn, i64 a.S.Top, i64 a.S.Bot, .bool a.S.NoWrap, .bool a.S.Hide, i64 a.S.SaveX, i64 a.S.SaveY, i64 a.S.SaveA.Fg, i64 a.S.SaveA.Bg, .bool a.S.SaveA.Bold, .bool a.S.SaveA.Under, .bool a.S.SaveA.Turn, .slice a.S.Tabs.A a.S.Tabs.n a.S.Tabs.c, i64 a.S.Limit, .slice a.S.Back.A a.S.Back.n a.S.Back.c]]) 13 Try.func37 rfl Try.ntmps37 rfl rfl ?_
 have hs1 := St.init w
 refine WC.sr ?_
 refine WL.bx hs1 rfl (fun b2 _ hs3 => ?_)
 refine WL.al hs3 Try.zeroValue35 rfl rfl (fun b4 _ hs5 => ?_)
 refine WL.nil ?_
 refine WC.sr ?_
 refine WL.al hs5 Try.zeroValue35 rfl rfl (fun b6 _ hs7 => ?_)
 refine WL.nil ?_
 refine WC.sr ?_
 refine WL.run tbk 2 hs7 [2] rfl ⟨rfl, trivial⟩ ?_
 refine WL.call rfl rfl rfl (Run.call Try.call19 rfl rfl rfl) (c_laws_toVp a.P _ (okVpR.st0 f_a.P hs7)) ?_
 rintro _ whs8 ⟨r9, L1_10, rfl, hs8, ho11, hd12⟩
 replace hs8 := hs7.callF hs8
 refine ⟨_, rfl, ?_⟩
 replace hs8 := St.back [_, _, _] hs8
 refine WL.run tbk 1 hs8 [] rfl trivial ?_
 refine WL.st tbk hs8 0 rfl rfl (fun _ hs13 => ?_)
 refine WL.nil ?_
 refine WC.sr ?_
 refine WL.run tbk 2 hs13 [2] rfl ⟨rfl, trivial⟩ ?_
 refine WL.call rfl rfl rfl (Run.call Try.call41 rfl rfl rfl) (c_laws_toScr a.S _ (okScrR.st0 f_a.S hs13)) ?_
 rintro _ whs14 ⟨r15, L1_16, rfl, hs14, ho17, hd18⟩
 replace hs14 := hs13.callF hs14
 refine ⟨_, rfl, ?_⟩
 replace hs14 := St.back [_, _, _] hs14
 refine WL.run tbk 1 hs14 [] rfl trivial ?_
 refine WL.st tbk hs14 0 rfl rfl (fun _ hs19 => ?_)
 refine WL.nil ?_
 refine WC.sr ?_
 refine WL.run tbk 1 hs19 [0] rfl ⟨rfl, trivial⟩ ?_
 refine WL.st tbk hs19 1 rfl rfl (fun _ hs20 => ?_)
 refine WL.nil ?_
 refine WC.ret ?_
 refine retV1 rfl (resV.cellA tbk hs20 1 rfl rfl rfl rfl) ?_
 obtain ⟨L21, L22, hs25, ho23, ho24⟩ := ownVpR.open_ (St.perm hs20 (L' := L1_10 ++ _) (perm_front (A := [_, _, _]) (perm_front (A := L1_16) (List.Perm.refl _)))) ho11
 have hs26 := (St.perm (St.perm (St.perm hs25 (L' := [_] ++ _) (perm_front (A := L21) (perm_front (A := L22) (perm_front (A := [_, _]) (List.Perm.refl _))))) (L' := [_] ++ _) (perm_front (A := [_]) (perm_front (A := L21) (perm_front (A := L22) (perm_front (A := [_]) (List.Perm.refl _)))))) (L' := [_] ++ _) (perm_front (A := [_, _]) (perm_front (A := L21) (perm_front (A := L22) (List.Perm.refl _)))))
 obtain ⟨L27, L28, L29, L30, hs35, ho31, ho32, ho33, ho34⟩ := ownScrR.open_ (St.perm hs26 (L' := L1_16 ++ _) (perm_front (A := [_, _, _]) (perm_front (A := L21) (perm_front (A := L22) (List.Perm.refl _))))) ho17
 have hs36 := (St.perm (St.perm (St.perm hs35 (L' := [_] ++ _) (perm_front (A := L27) (perm_front (A := L28) (perm_front (A := L29) (perm_front (A := L30) (perm_front (A := [_, _]) (List.Perm.refl _))))))) (L' := [_] ++ _) (perm_front (A := [_]) (perm_front (A := L27) (perm_front (A := L28) (perm_front (A := L29) (perm_front (A := L30) (perm_front (A := [_]) (List.Perm.refl _)))))))) (L' := [_] ++ _) (perm_front (A := [_, _]) (perm_front (A := L27) (perm_front (A := L28) (perm_front (A := L29) (perm_front (A := L30) (List.Perm.refl _)))))))
 obtain ⟨L38, hs37, ho39⟩ := ownTermR.fold ⟨⟨0, false, ⟨_, _, _, _⟩, ⟨_, _, _, _⟩⟩, ⟨0, 0, ⟨0, 0, ⟨_, _, _, _⟩⟩, ⟨0, 0, ⟨_, _, _, _⟩⟩, false, 0, 0, false, ⟨0, 0, false, false, false⟩, 0, 0, false, false, 0, 0, ⟨0, 0, false, false, false⟩, ⟨_, _, _, _⟩, 0, ⟨_, _, _, _⟩⟩⟩ (St.perm (St.perm (St.perm (St.perm (St.perm (St.perm hs36 (L' := L30 ++ _) (perm_front (A := [_, _, _]) (perm_front (A := L27) (perm_front (A := L28) (perm_front (A := L29) (List.Perm.refl _)))))) (L' := L29 ++ _) (perm_front (A := L30) (perm_front (A := [_, _, _]) (perm_front (A := L27) (perm_front (A := L28) (List.Perm.refl _)))))) (L' := L28 ++ _) (perm_front (A := L29) (perm_front (A := L30) (perm_front (A := [_, _, _]) (perm_front (A := L27) (List.Perm.refl _)))))) (L' := L27 ++ _) (perm_front (A := L28) (perm_front (A := L29) (perm_front (A := L30) (perm_front (A := [_, _, _]) (List.Perm.refl _)))))) (L' := L22 ++ _) (perm_front (A := L27) (perm_front (A := L28) (perm_front (A := L29) (perm_front (A := L30) (perm_front (A := [_, _, _]) (perm_front (A := L21) (List.Perm.refl _)))))))) (L' := L21 ++ _) (perm_front (A := L22) (perm_front (A := L27) (perm_front (A := L28) (perm_front (A := L29) (perm_front (A := L30) (perm_front (A := [_, _, _]) (List.Perm.refl _)))))))) ho23 ho24 ho31 ho32 ho33 ho34
 have hs40 := (St.perm (St.perm (St.perm hs37 (L' := [_] ++ _) (perm_front (A := L38) (perm_front (A := [_, _]) (List.Perm.refl _)))) (L' := [_] ++ _) (perm_front (A := [_]) (perm_front (A := L38) (perm_front (A := [_]) (List.Perm.refl _))))) (L' := [_] ++ _) (perm_front (A := [_, _]) (perm_front (A := L38) (List.Perm.refl _))))
 refine ⟨⟨⟨r9.State, r9.Mark, SlD.of ho23, SlD.of ho24⟩, ⟨r15.W, r15.H, ⟨r15.Main.W, r15.Main.H, SlD.of ho31⟩, ⟨r15.Alt.W, r15.Alt.H, SlD.of ho32⟩, r15.OnAlt, r15.X, r15.Y, r15.Wrap, ⟨r15.A.Fg, r15.A.Bg, r15.A.Bold, r15.A.Under, r15.A.Turn⟩, r15.Top, r15.Bot, r15.NoWrap, r15.Hide, r15.SaveX, r15.SaveY, ⟨r15.SaveA.Fg, r15.SaveA.Bg, r15.SaveA.Bold, r15.SaveA.Under, r15.SaveA.Turn⟩, SlD.of ho33, r15.Limit, SlD.ofN ho34⟩⟩, _, rfl, (St.keep1 (St.perm hs40 (L' := L38 ++ _) (perm_front (A := [_, _, _]) (List.Perm.refl _)))), ?_, ?_⟩
 · exact (by exact ho39)
 · exact TermD.ext' hd12 hd18
set_option maxHeartbeats 4000000 in
theorem c_laws_eqTerm (a : TermR) (b : TermR) (w : World) (f_a : okTermR 549755813888 w a) (f_b : okTermR 549755813888 w b) (hab : a.dat = b.dat) :
    Calls Try.prog 14 #[.agg #[i64 a.P.State, .bool a.P.Mark, .slice a.P.Args.A a.P.Args.n a.P.Args.c, .slice a.P.Part.A a.P.Part.n a.P.Part.c, i64 a.S.W, i64 a.S.H, i64 a.S.Main.W, i64 a.S.Main.H, .slice a.S.Main.Cells.A a.S.Main.Cells.n a.S.Main.Cells.c, i64 a.S.Alt.W, i64 a.S.Alt.H, .slice a.S.Alt.Cells.A a.S.Alt.Cells.n a.S.Alt.Cells.c, .bool a.S.OnAlt, i64 a.S.X, i64 a.S.Y, .bool a.S.Wrap, i64 a.S.A.Fg, i64 a.S.A.Bg, .bool a.S.A.Bold, .bool a.S.A.Under, .bool a.S.A.Turn, i64 a.S.Top, i64 a.S.Bot, .bool a.S.NoWrap, .bool a.S.Hide, i64 a.S.SaveX, i64 a.S.SaveY, i64 a.S.SaveA.Fg, i64 a.S.SaveA.Bg, .bool a.S.SaveA.Bold, .bool a.S.SaveA.Under, .bool a.S.SaveA.Turn, .slice a.S.Tabs.A a.S.Tabs.n a.S.Tabs.c, i64 a.S.Limit, .slice a.S.Back.A a.S.Back.n a.S.Back.c], .agg #[i64 b.P.State, .bool b.P.Mark, .slice b.P.Args.A b.P.Args.n b.P.Args.c, .slice b.P.Part.A b.P.Part.n b.P.Part.c, i64 b.S.W, i64 b.S.H, i64 b.S.Main.W, i64 b.S.Main.H, .slice b.S.Main.Cells.A b.S.Main.Cells.n b.S.Main.Cells.c, i64 b.S.Alt.W, i64 b.S.Alt.H, .slice b.S.Alt.Cells.A b.S.Alt.Cells.n b.S.Alt.Cells.c, .bool b.S.OnAlt, i64 b.S.X, i64 b.S.Y, .bool b.S.Wrap, i64 b.S.A.Fg, i64 b.S.A.Bg, .bool b.S.A.Bold, .bool b.S.A.Under, .bool b.S.A.Turn, i64 b.S.Top, i64 b.S.Bot, .bool b.S.NoWrap, .bool b.S.Hide, i64 b.S.SaveX, i64 b.S.SaveY, i64 b.S.SaveA.Fg, i64 b.S.SaveA.Bg, .bool b.S.SaveA.Bold, .bool b.S.SaveA.Under, .bool b.S.SaveA.Turn, .slice b.S.Tabs.A b.S.Tabs.n b.S.Tabs.c, i64 b.S.Limit, .slice b.S.Back.A b.S.Back.n b.S.Back.c]] w fun e w' => e = .returned (.bool true) ∧ St w [] [] w' := by
 have nb_a_P_Args := f_a.P.Args_n
 have nl_a_P_Args := f_a.P.Args.len
 have nb_a_P_Part := f_a.P.Part_n
 have nl_a_P_Part := f_a.P.Part.len
 have nb_a_S_Main_Cells := f_a.S.Main.Cells_n
 have nl_a_S_Main_Cells := f_a.S.Main.Cells.len
 have nb_a_S_Alt_Cells := f_a.S.Alt.Cells_n
 have nl_a_S_Alt_Cells := f_a.S.Alt.Cells.len
 have nb_a_S_Tabs := f_a.S.Tabs_n
 have nl_a_S_Tabs := f_a.S.Tabs.len
 have nb_a_S_Back := f_a.S.Back_n
 have nl_a_S_Back := f_a.S.Back.sl.len
 have nb_b_P_Args := f_b.P.Args_n
 have nl_b_P_Args := f_b.P.Args.len
 have nb_b_P_Part := f_b.P.Part_n
 have nl_b_P_Part := f_b.P.Part.len
 have nb_b_S_Main_Cells := f_b.S.Main.Cells_n
 have nl_b_S_Main_Cells := f_b.S.Main.Cells.len
 have nb_b_S_Alt_Cells := f_b.S.Alt.Cells_n
 have nl_b_S_Alt_Cells := f_b.S.Alt.Cells.len
 have nb_b_S_Tabs := f_b.S.Tabs_n
 have nl_b_S_Tabs := f_b.S.Tabs.len
 have nb_b_S_Back := f_b.S.Back_n
 have nl_b_S_Back := f_b.S.Back.sl.len
 have e_P : a.P.dat = b.P.dat := congrArg (fun d : TermD => d.P) hab
 have e_P_State : a.P.State = b.P.State := congrArg (fun d : TermD => d.P.State) hab
 have e_P_Mark : a.P.Mark = b.P.Mark := congrArg (fun d : TermD => d.P.Mark) hab
 have e_P_Args : a.P.Args.xs = b.P.Args.xs := congrArg (fun d : TermD => d.P.Args) hab
 have e_P_Part : a.P.Part.xs = b.P.Part.xs := congrArg (fun d : TermD => d.P.Part) hab
 have e_S : a.S.dat = b.S.dat := congrArg (fun d : TermD => d.S) hab
 have e_S_W : a.S.W = b.S.W := congrArg (fun d : TermD => d.S.W) hab
 have e_S_H : a.S.H = b.S.H := congrArg (fun d : TermD => d.S.H) hab
 have e_S_Main : a.S.Main.dat = b.S.Main.dat := congrArg (fun d : TermD => d.S.Main) hab
 have e_S_Main_W : a.S.Main.W = b.S.Main.W := congrArg (fun d : TermD => d.S.Main.W) hab
 have e_S_Main_H : a.S.Main.H = b.S.Main.H := congrArg (fun d : TermD => d.S.Main.H) hab
 have e_S_Main_Cells : a.S.Main.Cells.xs = b.S.Main.Cells.xs := congrArg (fun d : TermD => d.S.Main.Cells) hab
 have e_S_Alt : a.S.Alt.dat = b.S.Alt.dat := congrArg (fun d : TermD => d.S.Alt) hab
 have e_S_Alt_W : a.S.Alt.W = b.S.Alt.W := congrArg (fun d : TermD => d.S.Alt.W) hab
 have e_S_Alt_H : a.S.Alt.H = b.S.Alt.H := congrArg (fun d : TermD => d.S.Alt.H) hab
 have e_S_Alt_Cells : a.S.Alt.Cells.xs = b.S.Alt.Cells.xs := congrArg (fun d : TermD => d.S.Alt.Cells) hab
 have e_S_OnAlt : a.S.OnAlt = b.S.OnAlt := congrArg (fun d : TermD => d.S.OnAlt) hab
 have e_S_X : a.S.X = b.S.X := congrArg (fun d : TermD => d.S.X) hab
 have e_S_Y : a.S.Y = b.S.Y := congrArg (fun d : TermD => d.S.Y) hab
 have e_S_Wrap : a.S.Wrap = b.S.Wrap := congrArg (fun d : TermD => d.S.Wrap) hab
 have e_S_A : a.S.A = b.S.A := congrArg (fun d : TermD => d.S.A) hab
 have e_S_A_Fg : a.S.A.Fg = b.S.A.Fg := congrArg (fun d : TermD => d.S.A.Fg) hab
 have e_S_A_Bg : a.S.A.Bg = b.S.A.Bg := congrArg (fun d : TermD => d.S.A.Bg) hab
 have e_S_A_Bold : a.S.A.Bold = b.S.A.Bold := congrArg (fun d : TermD => d.S.A.Bold) hab
 have e_S_A_Under : a.S.A.Under = b.S.A.Under := congrArg (fun d : TermD => d.S.A.Under) hab
 have e_S_A_Turn : a.S.A.Turn = b.S.A.Turn := congrArg (fun d : TermD => d.S.A.Turn) hab
 have e_S_Top : a.S.Top = b.S.Top := congrArg (fun d : TermD => d.S.Top) hab
 have e_S_Bot : a.S.Bot = b.S.Bot := congrArg (fun d : TermD => d.S.Bot) hab
 have e_S_NoWrap : a.S.NoWrap = b.S.NoWrap := congrArg (fun d : TermD => d.S.NoWrap) hab
 have e_S_Hide : a.S.Hide = b.S.Hide := congrArg (fun d : TermD => d.S.Hide) hab
 have e_S_SaveX : a.S.SaveX = b.S.SaveX := congrArg (fun d : TermD => d.S.SaveX) hab
 have e_S_SaveY : a.S.SaveY = b.S.SaveY := congrArg (fun d : TermD => d.S.SaveY) hab
 have e_S_SaveA : a.S.SaveA = b.S.SaveA := congrArg (fun d : TermD => d.S.SaveA) hab
 have e_S_SaveA_Fg : a.S.SaveA.Fg = b.S.SaveA.Fg := congrArg (fun d : TermD => d.S.SaveA.Fg) hab
 have e_S_SaveA_Bg : a.S.SaveA.Bg = b.S.SaveA.Bg := congrArg (fun d : TermD => d.S.SaveA.Bg) hab
 have e_S_SaveA_Bold : a.S.SaveA.Bold = b.S.SaveA.Bold := congrArg (fun d : TermD => d.S.SaveA.Bold) hab
 have e_S_SaveA_Under : a.S.SaveA.Under = b.S.SaveA.Under := congrArg (fun d : TermD => d.S.SaveA.Under) hab
 have e_S_SaveA_Turn : a.S.SaveA.Turn = b.S.SaveA.Turn := congrArg (fun d : TermD => d.S.SaveA.Turn) hab
 have e_S_Tabs : a.S.Tabs.xs = b.S.Tabs.xs := congrArg (fun d : TermD => d.S.Tabs) hab
 have e_S_Limit : a.S.Limit = b.S.Limit := congrArg (fun d : TermD => d.S.Limit) hab
 have e_S_Back : a.S.Back.xs.map RowR.dat = b.S.Back.xs.map RowR.dat := congrArg (fun d : TermD => d.S.Back) hab
 refine enter (vs := [.agg #[i64 a.P.State, .bool a.P.Mark, .slice a.P.Args.A a.P.Args.n a.P.Args.c, .slice a.P.Part.A a.P.Part.n a.P.Part.c, i64 a.S.W, i64 a.S.H, i64 a.S.Main.W, i64 a.S.Main.H, .slice a.S.Main.Cells.A a.S.Main.Cells.n a.S.Main.Cells.c, i64 a.S.Alt.W, i64 a.S.Alt.H, .slice a.S.Alt.Cells.A a.S.Alt.Cells.n a.S.Alt.Cells.c, .bool a.S.OnAlt, i64 a.S.X, i64 a.S.Y, .bool a.S.Wrap, i64 a.S.A.Fg, i64 a.S.A.Bg, .bool a.S.A.Bold, .bool a.S.A.Under, .bool a.S.A.Turn, i64 a.S.Top, i64 a.S.Bot, .bool a.S.NoWrap, .bool a.S.Hide, i64 a.S.SaveX, i64 a.S.SaveY, i64 a.S.SaveA.Fg, i64 a.S.SaveA.Bg, .bool a.S.SaveA.Bold, .bool a.S.SaveA.Under, .bool a.S.SaveA.Turn, .slice a.S.Tabs.A a.S.Tabs.n a.S.Tabs.c, i64 a.S.Limit, .slice a.S.Back.A a.S.Back.n a.S.Back.c], .agg #[i64 b.P.State, .bool b.P.Mark, .slice b.P.Args.A b.P.Args.n b.P.Args.c, .slice b.P.Part.A b.P.Part.n b.P.Part.c, i64 b.S.W, i64 b.S.H, i64 b.S.Main.W, i64 b.S.Main.H, .slice b.S.Main.Cells.A b.S.Main.Cells.n b.S.Main.Cells.c, i64 b.S.Alt.W, i64 b.S.Alt.H, .slice b.S.Alt.Cells.A b.S.Alt.Cells.n b.S.Alt.Cells.c, .bool b.S.OnAlt, i64 b.S.X, i64 b.S.Y, .bool b.S.Wrap, i64 b.S.A.Fg, i64 b.S.A.Bg, .bool b.S.A.Bold, .bool b.S.A.Under, .bool b.S.A.Turn, i64 b.S.Top, i64 b.S.Bot, .bool b.S.NoWrap, .bool b.S.Hide, i64 b.S.SaveX, i64 b.S.SaveY, i64 b.S.SaveA.Fg, i64 b.S.SaveA.Bg, .bool b.S.SaveA.Bold, .bool b.S.SaveA.Under, .bool b.S.SaveA.Turn, .slice b.S.Tabs.A b.S.Tabs.n b.S.Tabs.c, i64 b.S.Limit, .slice b.S.Back.A b.S.Back.n b.S.Back.c]]) 17 Try.func14 rfl Try.ntmps14 rfl rfl ?_
 have hs1 := St.init w
 refine WC.sr ?_
 refine WL.bx hs1 rfl (fun b2 _ hs3 => ?_)
 refine WL.bx hs3 rfl (fun b4 _ hs5 => ?_)
 refine WL.run tbk 1 hs5 [] rfl trivial ?_
 refine WL.nil ?_
 refine WC.seq (fun K6 hK6 => ?_)
 refine WC.sr ?_
 refine WL.run tbk 4 hs5 [1, 0] rfl ⟨rfl, rfl, trivial⟩ ?_
 refine WL.call rfl rfl rfl (Run.call Try.call21 rfl rfl rfl) (c_laws_eqVp a.P b.P _ (okVpR.st0 f_a.P hs5) (okVpR.st0 f_b.P hs5) ?_) ?_
 · first | assumption | rfl | omega
 rintro _ whs7 ⟨rfl, hs7⟩
 replace hs7 := hs5.call0 hs7
 refine ⟨_, rfl, ?_⟩
 refine WL.run tbk 1 hs7 [] rfl trivial ?_
 refine WL.nil ?_
 refine WC.condF rfl (by simp [e_P_State, e_P_Mark, e_S_W, e_S_H, e_S_Main_W, e_S_Main_H, e_S_Alt_W, e_S_Alt_H, e_S_OnAlt, e_S_X, e_S_Y, e_S_Wrap, e_S_A_Fg, e_S_A_Bg, e_S_A_Bold, e_S_A_Under, e_S_A_Turn, e_S_Top, e_S_Bot, e_S_NoWrap, e_S_Hide, e_S_SaveX, e_S_SaveY, e_S_SaveA_Fg, e_S_SaveA_Bg, e_S_SaveA_Bold, e_S_SaveA_Under, e_S_SaveA_Turn, e_S_Limit]) ?_
 refine WC.skip ?_
 refine hK6 _ _ ?_
 refine WC.seq (fun K9 hK9 => ?_)
 refine WC.sr ?_
 refine WL.run tbk 4 hs7 [1, 0] rfl ⟨rfl, rfl, trivial⟩ ?_
 refine WL.call rfl rfl rfl (Run.call Try.call43 rfl rfl rfl) (c_laws_eqScr a.S b.S _ (okScrR.st0 f_a.S hs7) (okScrR.st0 f_b.S hs7) ?_) ?_
 · first | assumption | rfl | omega
 rintro _ whs10 ⟨rfl, hs10⟩
 replace hs10 := hs7.call0 hs10
 refine ⟨_, rfl, ?_⟩
 refine WL.run tbk 1 hs10 [] rfl trivial ?_
 refine WL.nil ?_
 refine WC.condF rfl (by simp [e_P_State, e_P_Mark, e_S_W, e_S_H, e_S_Main_W, e_S_Main_H, e_S_Alt_W, e_S_Alt_H, e_S_OnAlt, e_S_X, e_S_Y, e_S_Wrap, e_S_A_Fg, e_S_A_Bg, e_S_A_Bold, e_S_A_Under, e_S_A_Turn, e_S_Top, e_S_Bot, e_S_NoWrap, e_S_Hide, e_S_SaveX, e_S_SaveY, e_S_SaveA_Fg, e_S_SaveA_Bg, e_S_SaveA_Bold, e_S_SaveA_Under, e_S_SaveA_Turn, e_S_Limit]) ?_
 refine WC.skip ?_
 refine hK9 _ _ ?_
 refine WC.rr tbk hs10 [] rfl trivial ?_
 refine WC.ret ?_
 refine retV1 rfl (resV.tmp rfl) ?_
 refine ⟨congrArg Ending.returned ?_, hs10.nil⟩
 rfl
set_option maxHeartbeats 4000000 in
theorem c_laws_szTerm (a : TermR) (left : Int) (w : World) (f_a : okTermR 9223372036854775807 w a) (h1 : 0 ≤ left) (h2 : left ≤ 1048576) :
    Calls Try.prog 35 #[.agg #[i64 a.P.State, .bool a.P.Mark, .slice a.P.Args.A a.P.Args.n a.P.Args.c, .slice a.P.Part.A a.P.Part.n a.P.Part.c, i64 a.S.W, i64 a.S.H, i64 a.S.Main.W, i64 a.S.Main.H, .slice a.S.Main.Cells.A a.S.Main.Cells.n a.S.Main.Cells.c, i64 a.S.Alt.W, i64 a.S.Alt.H, .slice a.S.Alt.Cells.A a.S.Alt.Cells.n a.S.Alt.Cells.c, .bool a.S.OnAlt, i64 a.S.X, i64 a.S.Y, .bool a.S.Wrap, i64 a.S.A.Fg, i64 a.S.A.Bg, .bool a.S.A.Bold, .bool a.S.A.Under, .bool a.S.A.Turn, i64 a.S.Top, i64 a.S.Bot, .bool a.S.NoWrap, .bool a.S.Hide, i64 a.S.SaveX, i64 a.S.SaveY, i64 a.S.SaveA.Fg, i64 a.S.SaveA.Bg, .bool a.S.SaveA.Bold, .bool a.S.SaveA.Under, .bool a.S.SaveA.Turn, .slice a.S.Tabs.A a.S.Tabs.n a.S.Tabs.c, i64 a.S.Limit, .slice a.S.Back.A a.S.Back.n a.S.Back.c], i64 left] w fun e w' => e = .returned (.int .i64 (szR left (totTerm a.dat))) ∧ St w [] [] w' := by
 have nb_a_P_Args := f_a.P.Args_n
 have nl_a_P_Args := f_a.P.Args.len
 have nb_a_P_Part := f_a.P.Part_n
 have nl_a_P_Part := f_a.P.Part.len
 have nb_a_S_Main_Cells := f_a.S.Main.Cells_n
 have nl_a_S_Main_Cells := f_a.S.Main.Cells.len
 have nb_a_S_Alt_Cells := f_a.S.Alt.Cells_n
 have nl_a_S_Alt_Cells := f_a.S.Alt.Cells.len
 have nb_a_S_Tabs := f_a.S.Tabs_n
 have nl_a_S_Tabs := f_a.S.Tabs.len
 have nb_a_S_Back := f_a.S.Back_n
 have nl_a_S_Back := f_a.S.Back.sl.len
 refine enter (vs := [.agg #[i64 a.P.State, .bool a.P.Mark, .slice a.P.Args.A a.P.Args.n a.P.Args.c, .slice a.P.Part.A a.P.Part.n a.P.Part.c, i64 a.S.W, i64 a.S.H, i64 a.S.Main.W, i64 a.S.Main.H, .slice a.S.Main.Cells.A a.S.Main.Cells.n a.S.Main.Cells.c, i64 a.S.Alt.W, i64 a.S.Alt.H, .slice a.S.Alt.Cells.A a.S.Alt.Cells.n a.S.Alt.Cells.c, .bool a.S.OnAlt, i64 a.S.X, i64 a.S.Y, .bool a.S.Wrap, i64 a.S.A.Fg, i64 a.S.A.Bg, .bool a.S.A.Bold, .bool a.S.A.Under, .bool a.S.A.Turn, i64 a.S.Top, i64 a.S.Bot, .bool a.S.NoWrap, .bool a.S.Hide, i64 a.S.SaveX, i64 a.S.SaveY, i64 a.S.SaveA.Fg, i64 a.S.SaveA.Bg, .bool a.S.SaveA.Bold, .bool a.S.SaveA.Under, .bool a.S.SaveA.Turn, .slice a.S.Tabs.A a.S.Tabs.n a.S.Tabs.c, i64 a.S.Limit, .slice a.S.Back.A a.S.Back.n a.S.Back.c], i64 left]) 18 Try.func35 rfl Try.ntmps35 rfl rfl ?_
 have hs1 := St.init w
 refine WC.sr ?_
 refine WL.bx hs1 rfl (fun b2 _ hs3 => ?_)
 refine WL.run tbk 1 hs3 [] rfl trivial ?_
 refine WL.nil ?_
 refine WC.sr ?_
 refine WL.run tbk 3 hs3 [0] rfl ⟨rfl, trivial⟩ ?_
 refine WL.call rfl rfl rfl (Run.call Try.call17 rfl rfl rfl) (c_laws_szVp a.P _ _ (okVpR.st0 f_a.P hs3) ?_ ?_) ?_
 · first | assumption | omega
 · first | assumption | omega | exact szR_b (by assumption) (by omega) (by first | assumption | omega)
 rintro _ whs4 ⟨rfl, hs4⟩
 replace hs4 := hs3.call0 hs4
 refine ⟨_, rfl, ?_⟩
 refine WL.run tbk 1 hs4 [] rfl trivial ?_
 refine WL.nil ?_
 refine WC.seq (fun K5 hK5 => ?_)
 refine WC.rr tbk hs4 [] rfl trivial ?_
 refine WC.cD rfl (fun qh6 => ?_) (fun qh6 => ?_)
 ·try have soh6 := szR_ok qh6 (by omega)
  try have sbh6 := szR_b qh6 (by omega) (by first | assumption | omega)
  try have snh6 := szR_no qh6
  refine WC.rr tbk hs4 [] rfl trivial ?_
  refine WC.ret ?_
  refine tkR ?_
  clear hK5
  refine retV1 rfl (resV.tmp rfl) ?_
  refine ⟨congrArg Ending.returned ?_, hs4.nil⟩
  simp only [totGrid, totScr, totTerm, totVp, GridR.dat, ScrR.dat, TermR.dat, VpR.dat] at *; first | (rw [szR_lt (by omega)]; done) | (refine congrArg (Value.int _) ?_; symm; refine (szR_le ?_).trans ?_ <;> omega) | rfl
 ·try have soh6 := szR_ok qh6 (by omega)
  try have sbh6 := szR_b qh6 (by omega) (by first | assumption | omega)
  try have snh6 := szR_no qh6
  refine WC.skip ?_
  refine hK5 _ _ ?_
  refine WC.sr ?_
  refine WL.run tbk 3 hs4 [0] rfl ⟨rfl, trivial⟩ ?_
  refine WL.call rfl rfl rfl (Run.call Try.call39 rfl rfl rfl) (c_laws_szScr a.S _ _ (okScrR.st0 f_a.S hs4) ?_ ?_) ?_
  · first | assumption | omega
  · first | assumption | omega | exact szR_b (by assumption) (by omega) (by first | assumption | omega)
  rintro _ whs7 ⟨rfl, hs7⟩
  replace hs7 := hs4.call0 hs7
  refine ⟨_, rfl, ?_⟩
  refine WL.run tbk 1 hs7 [] rfl trivial ?_
  refine WL.nil ?_
  refine WC.seq (fun K8 hK8 => ?_)
  refine WC.rr tbk hs7 [] rfl trivial ?_
  refine WC.cD rfl (fun qh9 => ?_) (fun qh9 => ?_)
  ·try have soh9 := szR_ok qh9 (by omega)
   try have sbh9 := szR_b qh9 (by omega) (by first | assumption | omega)
   try have snh9 := szR_no qh9
   refine WC.rr tbk hs7 [] rfl trivial ?_
   refine WC.ret ?_
   refine tkR ?_
   clear hK8
   refine retV1 rfl (resV.tmp rfl) ?_
   refine ⟨congrArg Ending.returned ?_, hs7.nil⟩
   simp only [totGrid, totScr, totTerm, totVp, GridR.dat, ScrR.dat, TermR.dat, VpR.dat] at *; first | (rw [szR_lt (by omega)]; done) | (refine congrArg (Value.int _) ?_; symm; refine (szR_le ?_).trans ?_ <;> omega) | rfl
  ·try have soh9 := szR_ok qh9 (by omega)
   try have sbh9 := szR_b qh9 (by omega) (by first | assumption | omega)
   try have snh9 := szR_no qh9
   refine WC.skip ?_
   refine hK8 _ _ ?_
   refine WC.rr tbk hs7 [] rfl trivial ?_
   refine WC.ret ?_
   refine retV1 rfl (resV.tmp rfl) ?_
   refine ⟨congrArg Ending.returned ?_, hs7.nil⟩
   simp only [totGrid, totScr, totTerm, totVp, GridR.dat, ScrR.dat, TermR.dat, VpR.dat] at *; first | (rw [szR_lt (by omega)]; done) | (refine congrArg (Value.int _) ?_; symm; refine (szR_le ?_).trans ?_ <;> omega) | rfl
set_option maxHeartbeats 4000000 in
theorem c_laws_markTerm (a : TermR) (L_a : Hp) (k : Int) (w : World) (o_a : ownTermR a L_a) (h_a : ∀ p, p ∈ L_a → w.heap[p.1]? = some p.2) (hd_ : ((L_a).map (·.1)).Nodup) (h1 : 0 ≤ k) (h2 : endTerm k a ≤ 549755813888) (hb_S_Back : a.S.Back.xs.length ≤ 549755813888) :
    Calls Try.prog 15 #[.agg #[i64 a.P.State, .bool a.P.Mark, .slice a.P.Args.A a.P.Args.n a.P.Args.c, .slice a.P.Part.A a.P.Part.n a.P.Part.c, i64 a.S.W, i64 a.S.H, i64 a.S.Main.W, i64 a.S.Main.H, .slice a.S.Main.Cells.A a.S.Main.Cells.n a.S.Main.Cells.c, i64 a.S.Alt.W, i64 a.S.Alt.H, .slice a.S.Alt.Cells.A a.S.Alt.Cells.n a.S.Alt.Cells.c, .bool a.S.OnAlt, i64 a.S.X, i64 a.S.Y, .bool a.S.Wrap, i64 a.S.A.Fg, i64 a.S.A.Bg, .bool a.S.A.Bold, .bool a.S.A.Under, .bool a.S.A.Turn, i64 a.S.Top, i64 a.S.Bot, .bool a.S.NoWrap, .bool a.S.Hide, i64 a.S.SaveX, i64 a.S.SaveY, i64 a.S.SaveA.Fg, i64 a.S.SaveA.Bg, .bool a.S.SaveA.Bold, .bool a.S.SaveA.Under, .bool a.S.SaveA.Turn, .slice a.S.Tabs.A a.S.Tabs.n a.S.Tabs.c, i64 a.S.Limit, .slice a.S.Back.A a.S.Back.n a.S.Back.c], i64 k] w fun e w' => ∃ L1, e = .returned (.int .i64 (endTerm k a)) ∧ St w (L_a.map (·.1)) L1 w' ∧ ownTermR (markTerm k a) L1 := by
 have hq2 := h2
 simp only [endGrid, endScr, endTerm, endVp] at hq2
 have hcn_S_Back := cnts_nonneg (c := cntERow) (fun x => by simp only [cntERow]; omega) a.S.Back.xs
 refine enter (vs := [.agg #[i64 a.P.State, .bool a.P.Mark, .slice a.P.Args.A a.P.Args.n a.P.Args.c, .slice a.P.Part.A a.P.Part.n a.P.Part.c, i64 a.S.W, i64 a.S.H, i64 a.S.Main.W, i64 a.S.Main.H, .slice a.S.Main.Cells.A a.S.Main.Cells.n a.S.Main.Cells.c, i64 a.S.Alt.W, i64 a.S.Alt.H, .slice a.S.Alt.Cells.A a.S.Alt.Cells.n a.S.Alt.Cells.c, .bool a.S.OnAlt, i64 a.S.X, i64 a.S.Y, .bool a.S.Wrap, i64 a.S.A.Fg, i64 a.S.A.Bg, .bool a.S.A.Bold, .bool a.S.A.Under, .bool a.S.A.Turn, i64 a.S.Top, i64 a.S.Bot, .bool a.S.NoWrap, .bool a.S.Hide, i64 a.S.SaveX, i64 a.S.SaveY, i64 a.S.SaveA.Fg, i64 a.S.SaveA.Bg, .bool a.S.SaveA.Bold, .bool a.S.SaveA.Under, .bool a.S.SaveA.Turn, .slice a.S.Tabs.A a.S.Tabs.n a.S.Tabs.c, i64 a.S.Limit, .slice a.S.Back.A a.S.Back.n a.S.Back.c], i64 k]) 14 Try.func15 rfl Try.ntmps15 rfl rfl ?_
 have hs1 := St.takes1 w L_a h_a hd_
 refine WC.sr ?_
 refine WL.bx hs1 rfl (fun b2 _ hs3 => ?_)
 refine WL.run tbk 1 hs3 [] rfl trivial ?_
 refine WL.nil ?_
 refine WC.sr ?_
 refine WL.run tbk 3 hs3 [0] rfl ⟨rfl, trivial⟩ ?_
 obtain ⟨L4, L5, L6, L7, L8, L9, hs16, ho10, ho11, ho12, ho13, ho14, ho15⟩ := ownTermR.open_ (St.perm hs3 (L' := L_a ++ _) (perm_front (A := [_]) (List.Perm.refl _))) o_a
 have hs17 := (St.perm hs16 (L' := [_] ++ _) (perm_front (A := L4) (perm_front (A := L5) (perm_front (A := L6) (perm_front (A := L7) (perm_front (A := L8) (perm_front (A := L9) (List.Perm.refl _))))))))
 obtain ⟨L19, hs18, ho20⟩ := ownVpR.fold ⟨0, false, ⟨_, _, _, _⟩, ⟨_, _, _, _⟩⟩ (St.perm (St.perm hs17 (L' := L5 ++ _) (perm_front (A := [_]) (perm_front (A := L4) (List.Perm.refl _)))) (L' := L4 ++ _) (perm_front (A := L5) (perm_front (A := [_]) (List.Perm.refl _)))) ho10 ho11
 have hs21 := (St.perm hs18 (L' := [_] ++ _) (perm_front (A := L19) (List.Perm.refl _)))
 refine WL.call rfl rfl rfl (Run.call Try.call23 rfl rfl rfl) (c_laws_markVp ⟨a.P.State, a.P.Mark, SlD.of ho10, SlD.of ho11⟩ _ _ _ (by exact ho20) (fun p_ hp_ => (hs21.own p_ (List.mem_append_right [_] (List.mem_append_left _ hp_))).1) (St.nodupL (St.perm hs21 (L' := L19 ++ _) (perm_front (A := [_]) (List.Perm.refl _)))) ?_ ?_) ?_
 · first | (first | assumption | omega) | (simp only [endGrid, endScr, endTerm, endVp]; omega)
 · first | (first | assumption | omega | (simp only [endVp]; omega)) | (simp only [endGrid, endScr, endTerm, endVp]; omega)
 rintro _ whs22 ⟨L1_23, rfl, hs22, ho24⟩
 replace hs22 := St.lend (St.perm hs21 (L' := L19 ++ _) (perm_front (A := [_]) (List.Perm.refl _))) hs22
 refine ⟨_, rfl, ?_⟩
 replace hs22 := St.back [_] hs22
 refine WL.run tbk 1 hs22 [] rfl trivial ?_
 refine WL.nil ?_
 refine WC.sr ?_
 refine WL.run tbk 3 hs22 [0] rfl ⟨rfl, trivial⟩ ?_
 obtain ⟨L26, hs25, ho27⟩ := ownScrR.fold ⟨0, 0, ⟨0, 0, ⟨_, _, _, _⟩⟩, ⟨0, 0, ⟨_, _, _, _⟩⟩, false, 0, 0, false, ⟨0, 0, false, false, false⟩, 0, 0, false, false, 0, 0, ⟨0, 0, false, false, false⟩, ⟨_, _, _, _⟩, 0, ⟨_, _, _, _⟩⟩ (St.perm (St.perm (St.perm (St.perm hs22 (L' := L9 ++ _) (perm_front (A := [_]) (perm_front (A := L1_23) (perm_front (A := L6) (perm_front (A := L7) (perm_front (A := L8) (List.Perm.refl _))))))) (L' := L8 ++ _) (perm_front (A := L9) (perm_front (A := [_]) (perm_front (A := L1_23) (perm_front (A := L6) (perm_front (A := L7) (List.Perm.refl _))))))) (L' := L7 ++ _) (perm_front (A := L8) (perm_front (A := L9) (perm_front (A := [_]) (perm_front (A := L1_23) (perm_front (A := L6) (List.Perm.refl _))))))) (L' := L6 ++ _) (perm_front (A := L7) (perm_front (A := L8) (perm_front (A := L9) (perm_front (A := [_]) (perm_front (A := L1_23) (List.Perm.refl _))))))) ho12 ho13 ho14 ho15
 have hs28 := (St.perm hs25 (L' := [_] ++ _) (perm_front (A := L26) (List.Perm.refl _)))
 refine WL.call rfl rfl rfl (Run.call Try.call44 rfl rfl rfl) (c_laws_markScr ⟨a.S.W, a.S.H, ⟨a.S.Main.W, a.S.Main.H, SlD.of ho12⟩, ⟨a.S.Alt.W, a.S.Alt.H, SlD.of ho13⟩, a.S.OnAlt, a.S.X, a.S.Y, a.S.Wrap, ⟨a.S.A.Fg, a.S.A.Bg, a.S.A.Bold, a.S.A.Under, a.S.A.Turn⟩, a.S.Top, a.S.Bot, a.S.NoWrap, a.S.Hide, a.S.SaveX, a.S.SaveY, ⟨a.S.SaveA.Fg, a.S.SaveA.Bg, a.S.SaveA.Bold, a.S.SaveA.Under, a.S.SaveA.Turn⟩, SlD.of ho14, a.S.Limit, SlD.ofN ho15⟩ _ _ _ (by exact ho27) (fun p_ hp_ => (hs28.own p_ (List.mem_append_right [_] (List.mem_append_left _ hp_))).1) (St.nodupL (St.perm hs28 (L' := L26 ++ _) (perm_front (A := [_]) (List.Perm.refl _)))) ?_ ?_ ?_) ?_
 · first | (first | assumption | omega) | (simp only [endGrid, endScr, endTerm, endVp]; omega)
 · first | (first | assumption | omega | (simp only [endGrid, endScr]; omega)) | (simp only [endGrid, endScr, endTerm, endVp]; omega)
 · first | (first | assumption | omega) | (simp only [endGrid, endScr, endTerm, endVp]; omega)
 rintro _ whs29 ⟨L1_30, rfl, hs29, ho31⟩
 replace hs29 := St.lend (St.perm hs28 (L' := L26 ++ _) (perm_front (A := [_]) (List.Perm.refl _))) hs29
 refine ⟨_, rfl, ?_⟩
 replace hs29 := St.back [_] hs29
 refine WL.run tbk 1 hs29 [] rfl trivial ?_
 refine WL.nil ?_
 refine WC.rr tbk hs29 [] rfl trivial ?_
 refine WC.ret ?_
 refine retV1 rfl (resV.tmp rfl) ?_
 obtain ⟨L32, L33, hs36, ho34, ho35⟩ := ownVpR.open_ (St.perm hs29 (L' := L1_23 ++ _) (perm_front (A := [_]) (perm_front (A := L1_30) (List.Perm.refl _)))) ho24
 have hs37 := (St.perm hs36 (L' := [_] ++ _) (perm_front (A := L32) (perm_front (A := L33) (List.Perm.refl _))))
 obtain ⟨L38, L39, L40, L41, hs46, ho42, ho43, ho44, ho45⟩ := ownScrR.open_ (St.perm hs37 (L' := L1_30 ++ _) (perm_front (A := [_]) (perm_front (A := L32) (perm_front (A := L33) (List.Perm.refl _))))) ho31
 have hs47 := (St.perm hs46 (L' := [_] ++ _) (perm_front (A := L38) (perm_front (A := L39) (perm_front (A := L40) (perm_front (A := L41) (List.Perm.refl _))))))
 obtain ⟨L49, hs48, ho50⟩ := ownTermR.fold ⟨⟨0, false, ⟨_, _, _, _⟩, ⟨_, _, _, _⟩⟩, ⟨0, 0, ⟨0, 0, ⟨_, _, _, _⟩⟩, ⟨0, 0, ⟨_, _, _, _⟩⟩, false, 0, 0, false, ⟨0, 0, false, false, false⟩, 0, 0, false, false, 0, 0, ⟨0, 0, false, false, false⟩, ⟨_, _, _, _⟩, 0, ⟨_, _, _, _⟩⟩⟩ (St.perm (St.perm (St.perm (St.perm (St.perm (St.perm hs47 (L' := L41 ++ _) (perm_front (A := [_]) (perm_front (A := L38) (perm_front (A := L39) (perm_front (A := L40) (List.Perm.refl _)))))) (L' := L40 ++ _) (perm_front (A := L41) (perm_front (A := [_]) (perm_front (A := L38) (perm_front (A := L39) (List.Perm.refl _)))))) (L' := L39 ++ _) (perm_front (A := L40) (perm_front (A := L41) (perm_front (A := [_]) (perm_front (A := L38) (List.Perm.refl _)))))) (L' := L38 ++ _) (perm_front (A := L39) (perm_front (A := L40) (perm_front (A := L41) (perm_front (A := [_]) (List.Perm.refl _)))))) (L' := L33 ++ _) (perm_front (A := L38) (perm_front (A := L39) (perm_front (A := L40) (perm_front (A := L41) (perm_front (A := [_]) (perm_front (A := L32) (List.Perm.refl _)))))))) (L' := L32 ++ _) (perm_front (A := L33) (perm_front (A := L38) (perm_front (A := L39) (perm_front (A := L40) (perm_front (A := L41) (perm_front (A := [_]) (List.Perm.refl _)))))))) ho34 ho35 ho42 ho43 ho44 ho45
 have hs51 := (St.perm hs48 (L' := [_] ++ _) (perm_front (A := L49) (List.Perm.refl _)))
 refine ⟨_, congrArg Ending.returned ?_, (St.keep1 (St.perm hs51 (L' := L49 ++ _) (perm_front (A := [_]) (List.Perm.refl _)))), (by exact ho50)⟩
 first | rfl | (simp [endTerm]; done) | (simp [endTerm]; omega)
set_option maxHeartbeats 4000000 in
theorem c_laws_heldTerm (a : TermR) (k : Int) (w : World) (f_a : okTermR 549755813888 w (markTerm k a)) (h1 : 0 ≤ k) (h2 : endTerm k a ≤ 549755813888) :
    Calls Try.prog 16 #[.agg #[i64 a.P.State, .bool a.P.Mark, .slice a.P.Args.A a.P.Args.n a.P.Args.c, .slice a.P.Part.A a.P.Part.n a.P.Part.c, i64 a.S.W, i64 a.S.H, i64 a.S.Main.W, i64 a.S.Main.H, .slice a.S.Main.Cells.A a.S.Main.Cells.n a.S.Main.Cells.c, i64 a.S.Alt.W, i64 a.S.Alt.H, .slice a.S.Alt.Cells.A a.S.Alt.Cells.n a.S.Alt.Cells.c, .bool a.S.OnAlt, i64 a.S.X, i64 a.S.Y, .bool a.S.Wrap, i64 a.S.A.Fg, i64 a.S.A.Bg, .bool a.S.A.Bold, .bool a.S.A.Under, .bool a.S.A.Turn, i64 a.S.Top, i64 a.S.Bot, .bool a.S.NoWrap, .bool a.S.Hide, i64 a.S.SaveX, i64 a.S.SaveY, i64 a.S.SaveA.Fg, i64 a.S.SaveA.Bg, .bool a.S.SaveA.Bold, .bool a.S.SaveA.Under, .bool a.S.SaveA.Turn, .slice a.S.Tabs.A a.S.Tabs.n a.S.Tabs.c, i64 a.S.Limit, .slice a.S.Back.A a.S.Back.n a.S.Back.c], i64 k] w fun e w' => e = .returned (.int .i64 (endTerm k a)) ∧ St w [] [] w' := by
 have fm_P : okVpR 549755813888 w (markVp k a.P) := f_a.P
 have fm_S : okScrR 549755813888 w (markScr (endVp k a.P) a.S) := f_a.S
 have nb_P_Args : a.P.Args.n ≤ 549755813888 := f_a.P.Args_n
 have nl_P_Args : a.P.Args.xs.length = a.P.Args.n := by have h_ := f_a.P.Args.len; simpa [markGrid, markScr, markTerm, markVp, marks_len, mrks_len] using h_
 have nb_P_Part : a.P.Part.n ≤ 549755813888 := f_a.P.Part_n
 have nl_P_Part : a.P.Part.xs.length = a.P.Part.n := by have h_ := f_a.P.Part.len; simpa [markGrid, markScr, markTerm, markVp, marks_len, mrks_len] using h_
 have nb_S_Main_Cells : a.S.Main.Cells.n ≤ 549755813888 := f_a.S.Main.Cells_n
 have nl_S_Main_Cells : a.S.Main.Cells.xs.length = a.S.Main.Cells.n := by have h_ := f_a.S.Main.Cells.len; simpa [markGrid, markScr, markTerm, markVp, marks_len, mrks_len] using h_
 have nb_S_Alt_Cells : a.S.Alt.Cells.n ≤ 549755813888 := f_a.S.Alt.Cells_n
 have nl_S_Alt_Cells : a.S.Alt.Cells.xs.length = a.S.Alt.Cells.n := by have h_ := f_a.S.Alt.Cells.len; simpa [markGrid, markScr, markTerm, markVp, marks_len, mrks_len] using h_
 have nb_S_Tabs : a.S.Tabs.n ≤ 549755813888 := f_a.S.Tabs_n
 have nl_S_Tabs : a.S.Tabs.xs.length = a.S.Tabs.n := by have h_ := f_a.S.Tabs.len; simpa [markGrid, markScr, markTerm, markVp, marks_len, mrks_len] using h_
 have nb_S_Back : a.S.Back.n ≤ 549755813888 := f_a.S.Back_n
 have nl_S_Back : a.S.Back.xs.length = a.S.Back.n := by have h_ := f_a.S.Back.sl.len; simpa [markGrid, markScr, markTerm, markVp, marks_len, mrks_len] using h_
 have fm_P : okVpR 549755813888 w (markVp k a.P) := f_a.P
 have fm_S : okScrR 549755813888 w (markScr (endVp k a.P) a.S) := f_a.S
 have nb_P_Args : a.P.Args.n ≤ 549755813888 := f_a.P.Args_n
 have nl_P_Args : a.P.Args.xs.length = a.P.Args.n := by have h_ := f_a.P.Args.len; simpa [markGrid, markScr, markTerm, markVp, marks_len, mrks_len] using h_
 have nb_P_Part : a.P.Part.n ≤ 549755813888 := f_a.P.Part_n
 have nl_P_Part : a.P.Part.xs.length = a.P.Part.n := by have h_ := f_a.P.Part.len; simpa [markGrid, markScr, markTerm, markVp, marks_len, mrks_len] using h_
 have nb_S_Main_Cells : a.S.Main.Cells.n ≤ 549755813888 := f_a.S.Main.Cells_n
 have nl_S_Main_Cells : a.S.Main.Cells.xs.length = a.S.Main.Cells.n := by have h_ := f_a.S.Main.Cells.len; simpa [markGrid, markScr, markTerm, markVp, marks_len, mrks_len] using h_
 have nb_S_Alt_Cells : a.S.Alt.Cells.n ≤ 549755813888 := f_a.S.Alt.Cells_n
 have nl_S_Alt_Cells : a.S.Alt.Cells.xs.length = a.S.Alt.Cells.n := by have h_ := f_a.S.Alt.Cells.len; simpa [markGrid, markScr, markTerm, markVp, marks_len, mrks_len] using h_
 have nb_S_Tabs : a.S.Tabs.n ≤ 549755813888 := f_a.S.Tabs_n
 have nl_S_Tabs : a.S.Tabs.xs.length = a.S.Tabs.n := by have h_ := f_a.S.Tabs.len; simpa [markGrid, markScr, markTerm, markVp, marks_len, mrks_len] using h_
 have nb_S_Back : a.S.Back.n ≤ 549755813888 := f_a.S.Back_n
 have nl_S_Back : a.S.Back.xs.length = a.S.Back.n := by have h_ := f_a.S.Back.sl.len; simpa [markGrid, markScr, markTerm, markVp, marks_len, mrks_len] using h_
 have hq2 := h2
 simp only [endGrid, endScr, endTerm, endVp] at hq2
 have hcn_S_Back := cnts_nonneg (c := cntERow) (fun x => by simp only [cntERow]; omega) a.S.Back.xs
 refine enter (vs := [.agg #[i64 a.P.State, .bool a.P.Mark, .slice a.P.Args.A a.P.Args.n a.P.Args.c, .slice a.P.Part.A a.P.Part.n a.P.Part.c, i64 a.S.W, i64 a.S.H, i64 a.S.Main.W, i64 a.S.Main.H, .slice a.S.Main.Cells.A a.S.Main.Cells.n a.S.Main.Cells.c, i64 a.S.Alt.W, i64 a.S.Alt.H, .slice a.S.Alt.Cells.A a.S.Alt.Cells.n a.S.Alt.Cells.c, .bool a.S.OnAlt, i64 a.S.X, i64 a.S.Y, .bool a.S.Wrap, i64 a.S.A.Fg, i64 a.S.A.Bg, .bool a.S.A.Bold, .bool a.S.A.Under, .bool a.S.A.Turn, i64 a.S.Top, i64 a.S.Bot, .bool a.S.NoWrap, .bool a.S.Hide, i64 a.S.SaveX, i64 a.S.SaveY, i64 a.S.SaveA.Fg, i64 a.S.SaveA.Bg, .bool a.S.SaveA.Bold, .bool a.S.SaveA.Under, .bool a.S.SaveA.Turn, .slice a.S.Tabs.A a.S.Tabs.n a.S.Tabs.c, i64 a.S.Limit, .slice a.S.Back.A a.S.Back.n a.S.Back.c], i64 k]) 18 Try.func16 rfl Try.ntmps16 rfl rfl ?_
 have hs1 := St.init w
 refine WC.sr ?_
 refine WL.bx hs1 rfl (fun b2 _ hs3 => ?_)
 refine WL.run tbk 1 hs3 [] rfl trivial ?_
 refine WL.nil ?_
 refine WC.sr ?_
 refine WL.run tbk 3 hs3 [0] rfl ⟨rfl, trivial⟩ ?_
 refine WL.call rfl rfl rfl (Run.call Try.call25 rfl rfl rfl) (c_laws_heldVp _ _ _ (okVpR.st0 fm_P hs3) ?_ ?_) ?_
 · first | (first | assumption | omega) | (simp only [endGrid, endScr, endTerm, endVp]; omega)
 · first | (first | assumption | omega | (simp only [endVp]; omega)) | (simp only [endGrid, endScr, endTerm, endVp]; omega)
 rintro _ whs4 ⟨rfl, hs4⟩
 replace hs4 := hs3.call0 hs4
 refine ⟨_, rfl, ?_⟩
 refine WL.run tbk 1 hs4 [] rfl trivial ?_
 refine WL.nil ?_
 refine WC.seq (fun K5 hK5 => ?_)
 refine WC.rr tbk hs4 [] rfl trivial ?_
 refine WC.condF rfl (by first | (simp; omega) | (rw [decide_eq_false_iff_not]; simp only [endGrid, endScr, endTerm, endVp]; omega)) ?_
 refine WC.skip ?_
 refine hK5 _ _ ?_
 refine WC.sr ?_
 refine WL.run tbk 3 hs4 [0] rfl ⟨rfl, trivial⟩ ?_
 refine WL.call rfl rfl rfl (Run.call Try.call45 rfl rfl rfl) (c_laws_heldScr _ _ _ (okScrR.st0 fm_S hs4) ?_ ?_) ?_
 · first | (first | assumption | omega) | (simp only [endGrid, endScr, endTerm, endVp]; omega)
 · first | (first | assumption | omega | (simp only [endGrid, endScr]; omega)) | (simp only [endGrid, endScr, endTerm, endVp]; omega)
 rintro _ whs7 ⟨rfl, hs7⟩
 replace hs7 := hs4.call0 hs7
 refine ⟨_, rfl, ?_⟩
 refine WL.run tbk 1 hs7 [] rfl trivial ?_
 refine WL.nil ?_
 refine WC.seq (fun K8 hK8 => ?_)
 refine WC.rr tbk hs7 [] rfl trivial ?_
 refine WC.condF rfl (by first | (simp; omega) | (rw [decide_eq_false_iff_not]; simp only [endGrid, endScr, endTerm, endVp]; omega)) ?_
 refine WC.skip ?_
 refine hK8 _ _ ?_
 refine WC.rr tbk hs7 [] rfl trivial ?_
 refine WC.ret ?_
 refine retV1 rfl (resV.tmp rfl) ?_
 refine ⟨congrArg Ending.returned ?_, hs7.nil⟩
 first | rfl | (simp [endGrid, endScr, endTerm, endVp, *]; done) | (simp [endGrid, endScr, endTerm, endVp, *]; omega)
end Go.Proofs.Ytlmcekfdlgkffaa
