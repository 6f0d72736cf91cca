/- Walks of Go functions, printed by a program (wip/gen). -/
import Derived.Test.YtlmcekfdlgkffaaGreatH2
namespace Go.Proofs.YtlmcekfdlgkffaaGreat
open Go Go.RowKit
set_option linter.unusedVariables false
set_option linter.unusedSimpArgs false
set_option maxHeartbeats 4000000 in
theorem c_laws_toScr (a : ScrR) (w : World) (f_a : okScrR 549755813888 w a) :
    Calls Tryz.prog 31 #[.agg #[i64 a.W, i64 a.H, i64 a.Main.W, i64 a.Main.H, .slice a.Main.Cells.A a.Main.Cells.n a.Main.Cells.c, i64 a.Alt.W, i64 a.Alt.H, .slice a.Alt.Cells.A a.Alt.Cells.n a.Alt.Cells.c, .bool a.OnAlt, i64 a.X, i64 a.Y, .bool a.Wrap, i64 a.A.Fg, i64 a.A.Bg, .bool a.A.Bold, .bool a.A.Under, .bool a.A.Turn, i64 a.Top, i64 a.Bot, .bool a.NoWrap, .bool a.Hide, i64 a.SaveX, i64 a.SaveY, i64 a.SaveA.Fg, i64 a.SaveA.Bg, .bool a.SaveA.Bold, .bool a.SaveA.Under, .bool a.SaveA.Turn, .slice a.Tabs.A a.Tabs.n a.Tabs.c, i64 a.Limit, .slice a.Back.A a.Back.n a.Back.c]] w fun e w' => ∃ r L1, e = .returned (.agg #[i64 r.W, i64 r.H, i64 r.Main.W, i64 r.Main.H, .slice r.Main.Cells.A r.Main.Cells.n r.Main.Cells.c, i64 r.Alt.W, i64 r.Alt.H, .slice r.Alt.Cells.A r.Alt.Cells.n r.Alt.Cells.c, .bool r.OnAlt, i64 r.X, i64 r.Y, .bool r.Wrap, i64 r.A.Fg, i64 r.A.Bg, .bool r.A.Bold, .bool r.A.Under, .bool r.A.Turn, i64 r.Top, i64 r.Bot, .bool r.NoWrap, .bool r.Hide, i64 r.SaveX, i64 r.SaveY, i64 r.SaveA.Fg, i64 r.SaveA.Bg, .bool r.SaveA.Bold, .bool r.SaveA.Under, .bool r.SaveA.Turn, .slice r.Tabs.A r.Tabs.n r.Tabs.c, i64 r.Limit, .slice r.Back.A r.Back.n r.Back.c]) ∧ St w [] L1 w' ∧ ownScrR r L1 ∧ r.dat = a.dat := by
 have nb_a_Main_Cells := f_a.Main.Cells_n
 have nl_a_Main_Cells := f_a.Main.Cells.len
 have nb_a_Alt_Cells := f_a.Alt.Cells_n
 have nl_a_Alt_Cells := f_a.Alt.Cells.len
 have nb_a_Tabs := f_a.Tabs_n
 have nl_a_Tabs := f_a.Tabs.len
 have nb_a_Back := f_a.Back_n
 have nl_a_Back := f_a.Back.sl.len
 refine enter (vs := [.agg #[i64 a.W, i64 a.H, i64 a.Main.W, i64 a.Main.H, .slice a.Main.Cells.A a.Main.Cells.n a.Main.Cells.c, i64 a.Alt.W, i64 a.Alt.H, .slice a.Alt.Cells.A a.Alt.Cells.n a.Alt.Cells.c, .bool a.OnAlt, i64 a.X, i64 a.Y, .bool a.Wrap, i64 a.A.Fg, i64 a.A.Bg, .bool a.A.Bold, .bool a.A.Under, .bool a.A.Turn, i64 a.Top, i64 a.Bot, .bool a.NoWrap, .bool a.Hide, i64 a.SaveX, i64 a.SaveY, i64 a.SaveA.Fg, i64 a.SaveA.Bg, .bool a.SaveA.Bold, .bool a.SaveA.Under, .bool a.SaveA.Turn, .slice a.Tabs.A a.Tabs.n a.Tabs.c, i64 a.Limit, .slice a.Back.A a.Back.n a.Back.c]]) 68 Tryz.func31 rfl Tryz.ntmps31 rfl rfl ?_
 have hs1 := St.init w
 refine WC.sr ?_
 refine WL.bx hs1 rfl (fun b2 _ hs3 => ?_)
 refine WL.al hs3 Tryz.zeroValue44 rfl rfl (fun b4 _ hs5 => ?_)
 refine WL.nil ?_
 refine WC.sr ?_
 refine WL.al hs5 Tryz.zeroValue44 rfl rfl (fun b6 _ hs7 => ?_)
 refine WL.nil ?_
 refine WC.sr ?_
 refine WL.run tbk 3 hs7 [2] rfl ⟨rfl, trivial⟩ ?_
 refine WL.st tbk hs7 0 rfl rfl (fun _ hs8 => ?_)
 refine WL.nil ?_
 refine WC.sr ?_
 refine WL.run tbk 3 hs8 [2] rfl ⟨rfl, trivial⟩ ?_
 refine WL.st tbk hs8 0 rfl rfl (fun _ hs9 => ?_)
 refine WL.nil ?_
 refine WC.sr ?_
 refine WL.run tbk 2 hs9 [2] rfl ⟨rfl, trivial⟩ ?_
 refine WL.call rfl rfl rfl (Run.call Tryz.call93 rfl rfl rfl) (c_laws_toGrid a.Main _ (okGridR.st0 f_a.Main hs9)) ?_
 rintro _ whs10 ⟨r11, L1_12, rfl, hs10, ho13, hd14⟩
 replace hs10 := hs9.callF hs10
 refine ⟨_, rfl, ?_⟩
 replace hs10 := St.back [_, _, _] hs10
 refine WL.run tbk 1 hs10 [] rfl trivial ?_
 refine WL.st tbk hs10 0 rfl rfl (fun _ hs15 => ?_)
 refine WL.nil ?_
 refine WC.sr ?_
 refine WL.run tbk 2 hs15 [2] rfl ⟨rfl, trivial⟩ ?_
 refine WL.call rfl rfl rfl (Run.call Tryz.call93 rfl rfl rfl) (c_laws_toGrid a.Alt _ (okGridR.st0 f_a.Alt hs15)) ?_
 rintro _ whs16 ⟨r17, L1_18, rfl, hs16, ho19, hd20⟩
 replace hs16 := hs15.callF hs16
 refine ⟨_, rfl, ?_⟩
 replace hs16 := St.back [_, _, _] hs16
 refine WL.run tbk 1 hs16 [] rfl trivial ?_
 refine WL.st tbk hs16 0 rfl rfl (fun _ hs21 => ?_)
 refine WL.nil ?_
 refine WC.sr ?_
 refine WL.run tbk 3 hs21 [2] rfl ⟨rfl, trivial⟩ ?_
 refine WL.st tbk hs21 0 rfl rfl (fun _ hs22 => ?_)
 refine WL.nil ?_
 refine WC.sr ?_
 refine WL.run tbk 3 hs22 [2] rfl ⟨rfl, trivial⟩ ?_
 refine WL.st tbk hs22 0 rfl rfl (fun _ hs23 => ?_)
 refine WL.nil ?_
 refine WC.sr ?_
 refine WL.run tbk 3 hs23 [2] rfl ⟨rfl, trivial⟩ ?_
 refine WL.st tbk hs23 0 rfl rfl (fun _ hs24 => ?_)
 refine WL.nil ?_
 refine WC.sr ?_
 refine WL.run tbk 3 hs24 [2] rfl ⟨rfl, trivial⟩ ?_
 refine WL.st tbk hs24 0 rfl rfl (fun _ hs25 => ?_)
 refine WL.nil ?_
 refine WC.sr ?_
 refine WL.run tbk 2 hs25 [2] rfl ⟨rfl, trivial⟩ ?_
 refine WL.call rfl rfl rfl (Run.call Tryz.call94 rfl rfl rfl) (c_laws_toAttr _ _ _ _ _ _) ?_
 rintro _ whs26 ⟨rfl, hs26⟩
 replace hs26 := hs25.call0 hs26
 refine ⟨_, rfl, ?_⟩
 refine WL.run tbk 1 hs26 [] rfl trivial ?_
 refine WL.st tbk hs26 0 rfl rfl (fun _ hs27 => ?_)
 refine WL.nil ?_
 refine WC.sr ?_
 refine WL.run tbk 3 hs27 [2] rfl ⟨rfl, trivial⟩ ?_
 refine WL.st tbk hs27 0 rfl rfl (fun _ hs28 => ?_)
 refine WL.nil ?_
 refine WC.sr ?_
 refine WL.run tbk 3 hs28 [2] rfl ⟨rfl, trivial⟩ ?_
 refine WL.st tbk hs28 0 rfl rfl (fun _ hs29 => ?_)
 refine WL.nil ?_
 refine WC.sr ?_
 refine WL.run tbk 3 hs29 [2] rfl ⟨rfl, trivial⟩ ?_
 refine WL.st tbk hs29 0 rfl rfl (fun _ hs30 => ?_)
 refine WL.nil ?_
 refine WC.sr ?_
 refine WL.run tbk 3 hs30 [2] rfl ⟨rfl, trivial⟩ ?_
 refine WL.st tbk hs30 0 rfl rfl (fun _ hs31 => ?_)
 refine WL.nil ?_
 refine WC.sr ?_
 refine WL.run tbk 3 hs31 [2] rfl ⟨rfl, trivial⟩ ?_
 refine WL.st tbk hs31 0 rfl rfl (fun _ hs32 => ?_)
 refine WL.nil ?_
 refine WC.sr ?_
 refine WL.run tbk 3 hs32 [2] rfl ⟨rfl, trivial⟩ ?_
 refine WL.st tbk hs32 0 rfl rfl (fun _ hs33 => ?_)
 refine WL.nil ?_
 refine WC.sr ?_
 refine WL.run tbk 2 hs33 [2] rfl ⟨rfl, trivial⟩ ?_
 refine WL.call rfl rfl rfl (Run.call Tryz.call94 rfl rfl rfl) (c_laws_toAttr _ _ _ _ _ _) ?_
 rintro _ whs34 ⟨rfl, hs34⟩
 replace hs34 := hs33.call0 hs34
 refine ⟨_, rfl, ?_⟩
 refine WL.run tbk 1 hs34 [] rfl trivial ?_
 refine WL.st tbk hs34 0 rfl rfl (fun _ hs35 => ?_)
 refine WL.nil ?_
 refine WC.sr ?_
 refine WL.run tbk 2 hs35 [2] rfl ⟨rfl, trivial⟩ ?_
 refine WL.call rfl rfl rfl (Run.call Tryz.call37 rfl rfl rfl) (c_laws_toIntS _ _ _ _ _ (SlF.st0 f_a.Tabs hs35) ?_) ?_
 · first | assumption | rfl | omega
 rintro _ whs36 ⟨A37, c38, L1_39, rfl, hs36, ho40⟩
 replace hs36 := hs35.callF hs36
 refine ⟨_, rfl, ?_⟩
 replace hs36 := St.back [_, _, _] hs36
 refine WL.run tbk 1 hs36 [] rfl trivial ?_
 refine WL.st tbk hs36 0 rfl rfl (fun _ hs41 => ?_)
 refine WL.nil ?_
 refine WC.sr ?_
 refine WL.run tbk 3 hs41 [2] rfl ⟨rfl, trivial⟩ ?_
 refine WL.st tbk hs41 0 rfl rfl (fun _ hs42 => ?_)
 refine WL.nil ?_
 refine WC.sr ?_
 refine WL.run tbk 2 hs42 [2] rfl ⟨rfl, trivial⟩ ?_
 refine WL.call rfl rfl rfl (Run.call Tryz.call95 rfl rfl rfl) (c_laws_toRowS _ _ _ _ _ (SlN.st0 okRowR.st0 f_a.Back hs42) ?_) ?_
 · first | assumption | rfl | omega
 rintro _ whs43 ⟨A44, c45, xs46, L1_47, rfl, hs43, ho48, hd49⟩
 replace hs43 := hs42.callF hs43
 refine ⟨_, rfl, ?_⟩
 replace hs43 := St.back [_, _, _] hs43
 refine WL.run tbk 1 hs43 [] rfl trivial ?_
 refine WL.st tbk hs43 0 rfl rfl (fun _ hs50 => ?_)
 refine WL.nil ?_
 refine WC.sr ?_
 refine WL.run tbk 1 hs50 [0] rfl ⟨rfl, trivial⟩ ?_
 refine WL.st tbk hs50 1 rfl rfl (fun _ hs51 => ?_)
 refine WL.nil ?_
 refine WC.ret ?_
 refine retV1 rfl (resV.cellA tbk hs51 1 rfl rfl rfl rfl) ?_
 obtain ⟨L53, hs52, ho54⟩ := ownScrR.fold ⟨0, 0, ⟨0, 0, ⟨_, _, _, _⟩⟩, ⟨0, 0, ⟨_, _, _, _⟩⟩, false, 0, 0, false, ⟨0, 0, false, false, false⟩, 0, 0, false, false, 0, 0, ⟨0, 0, false, false, false⟩, ⟨_, _, _, _⟩, 0, ⟨_, _, _, _⟩⟩ (St.perm (St.perm (St.perm (St.perm hs51 (L' := L1_47 ++ _) (perm_front (A := [_, _, _]) (List.Perm.refl _))) (L' := L1_39 ++ _) (perm_front (A := L1_47) (perm_front (A := [_, _, _]) (List.Perm.refl _)))) (L' := L1_18 ++ _) (perm_front (A := L1_39) (perm_front (A := L1_47) (perm_front (A := [_, _, _]) (List.Perm.refl _))))) (L' := L1_12 ++ _) (perm_front (A := L1_18) (perm_front (A := L1_39) (perm_front (A := L1_47) (perm_front (A := [_, _, _]) (List.Perm.refl _)))))) ho13 ho19 ho40 ho48
 have hs55 := (St.perm (St.perm (St.perm hs52 (L' := [_] ++ _) (perm_front (A := L53) (perm_front (A := [_, _]) (List.Perm.refl _)))) (L' := [_] ++ _) (perm_front (A := [_]) (perm_front (A := L53) (perm_front (A := [_]) (List.Perm.refl _))))) (L' := [_] ++ _) (perm_front (A := [_, _]) (perm_front (A := L53) (List.Perm.refl _))))
 refine ⟨⟨a.W, a.H, ⟨r11.W, r11.H, SlD.of ho13⟩, ⟨r17.W, r17.H, SlD.of ho19⟩, a.OnAlt, a.X, a.Y, a.Wrap, ⟨_, _, _, _, _⟩, a.Top, a.Bot, a.NoWrap, a.Hide, a.SaveX, a.SaveY, ⟨_, _, _, _, _⟩, SlD.of ho40, a.Limit, SlD.ofN ho48⟩, _, rfl, (St.keep1 (St.perm hs55 (L' := L53 ++ _) (perm_front (A := [_, _, _]) (List.Perm.refl _)))), ?_, ?_⟩
 · exact (by exact ho54)
 · exact ScrD.ext' rfl rfl hd14 hd20 rfl rfl rfl rfl rfl rfl rfl rfl rfl rfl rfl rfl rfl rfl hd49
set_option maxHeartbeats 4000000 in
theorem c_laws_eqScr (a : ScrR) (b : ScrR) (w : World) (f_a : okScrR 549755813888 w a) (f_b : okScrR 549755813888 w b) (hab : a.dat = b.dat) :
    Calls Tryz.prog 33 #[.agg #[i64 a.W, i64 a.H, i64 a.Main.W, i64 a.Main.H, .slice a.Main.Cells.A a.Main.Cells.n a.Main.Cells.c, i64 a.Alt.W, i64 a.Alt.H, .slice a.Alt.Cells.A a.Alt.Cells.n a.Alt.Cells.c, .bool a.OnAlt, i64 a.X, i64 a.Y, .bool a.Wrap, i64 a.A.Fg, i64 a.A.Bg, .bool a.A.Bold, .bool a.A.Under, .bool a.A.Turn, i64 a.Top, i64 a.Bot, .bool a.NoWrap, .bool a.Hide, i64 a.SaveX, i64 a.SaveY, i64 a.SaveA.Fg, i64 a.SaveA.Bg, .bool a.SaveA.Bold, .bool a.SaveA.Under, .bool a.SaveA.Turn, .slice a.Tabs.A a.Tabs.n a.Tabs.c, i64 a.Limit, .slice a.Back.A a.Back.n a.Back.c], .agg #[i64 b.W, i64 b.H, i64 b.Main.W, i64 b.Main.H, .slice b.Main.Cells.A b.Main.Cells.n b.Main.Cells.c, i64 b.Alt.W, i64 b.Alt.H, .slice b.Alt.Cells.A b.Alt.Cells.n b.Alt.Cells.c, .bool b.OnAlt, i64 b.X, i64 b.Y, .bool b.Wrap, i64 b.A.Fg, i64 b.A.Bg, .bool b.A.Bold, .bool b.A.Under, .bool b.A.Turn, i64 b.Top, i64 b.Bot, .bool b.NoWrap, .bool b.Hide, i64 b.SaveX, i64 b.SaveY, i64 b.SaveA.Fg, i64 b.SaveA.Bg, .bool b.SaveA.Bold, .bool b.SaveA.Under, .bool b.SaveA.Turn, .slice b.Tabs.A b.Tabs.n b.Tabs.c, i64 b.Limit, .slice b.Back.A b.Back.n b.Back.c]] w fun e w' => e = .returned (.bool true) ∧ St w [] [] w' := by
 have nb_a_Main_Cells := f_a.Main.Cells_n
 have nl_a_Main_Cells := f_a.Main.Cells.len
 have nb_a_Alt_Cells := f_a.Alt.Cells_n
 have nl_a_Alt_Cells := f_a.Alt.Cells.len
 have nb_a_Tabs := f_a.Tabs_n
 have nl_a_Tabs := f_a.Tabs.len
 have nb_a_Back := f_a.Back_n
 have nl_a_Back := f_a.Back.sl.len
 have nb_b_Main_Cells := f_b.Main.Cells_n
 have nl_b_Main_Cells := f_b.Main.Cells.len
 have nb_b_Alt_Cells := f_b.Alt.Cells_n
 have nl_b_Alt_Cells := f_b.Alt.Cells.len
 have nb_b_Tabs := f_b.Tabs_n
 have nl_b_Tabs := f_b.Tabs.len
 have nb_b_Back := f_b.Back_n
 have nl_b_Back := f_b.Back.sl.len
 have e_W : a.W = b.W := congrArg (fun d : ScrD => d.W) hab
 have e_H : a.H = b.H := congrArg (fun d : ScrD => d.H) hab
 have e_Main : a.Main.dat = b.Main.dat := congrArg (fun d : ScrD => d.Main) hab
 have e_Main_W : a.Main.W = b.Main.W := congrArg (fun d : ScrD => d.Main.W) hab
 have e_Main_H : a.Main.H = b.Main.H := congrArg (fun d : ScrD => d.Main.H) hab
 have e_Main_Cells : a.Main.Cells.xs = b.Main.Cells.xs := congrArg (fun d : ScrD => d.Main.Cells) hab
 have e_Alt : a.Alt.dat = b.Alt.dat := congrArg (fun d : ScrD => d.Alt) hab
 have e_Alt_W : a.Alt.W = b.Alt.W := congrArg (fun d : ScrD => d.Alt.W) hab
 have e_Alt_H : a.Alt.H = b.Alt.H := congrArg (fun d : ScrD => d.Alt.H) hab
 have e_Alt_Cells : a.Alt.Cells.xs = b.Alt.Cells.xs := congrArg (fun d : ScrD => d.Alt.Cells) hab
 have e_OnAlt : a.OnAlt = b.OnAlt := congrArg (fun d : ScrD => d.OnAlt) hab
 have e_X : a.X = b.X := congrArg (fun d : ScrD => d.X) hab
 have e_Y : a.Y = b.Y := congrArg (fun d : ScrD => d.Y) hab
 have e_Wrap : a.Wrap = b.Wrap := congrArg (fun d : ScrD => d.Wrap) hab
 have e_A : a.A = b.A := congrArg (fun d : ScrD => d.A) hab
 have e_A_Fg : a.A.Fg = b.A.Fg := congrArg (fun d : ScrD => d.A.Fg) hab
 have e_A_Bg : a.A.Bg = b.A.Bg := congrArg (fun d : ScrD => d.A.Bg) hab
 have e_A_Bold : a.A.Bold = b.A.Bold := congrArg (fun d : ScrD => d.A.Bold) hab
 have e_A_Under : a.A.Under = b.A.Under := congrArg (fun d : ScrD => d.A.Under) hab
 have e_A_Turn : a.A.Turn = b.A.Turn := congrArg (fun d : ScrD => d.A.Turn) hab
 have e_Top : a.Top = b.Top := congrArg (fun d : ScrD => d.Top) hab
 have e_Bot : a.Bot = b.Bot := congrArg (fun d : ScrD => d.Bot) hab
 have e_NoWrap : a.NoWrap = b.NoWrap := congrArg (fun d : ScrD => d.NoWrap) hab
 have e_Hide : a.Hide = b.Hide := congrArg (fun d : ScrD => d.Hide) hab
 have e_SaveX : a.SaveX = b.SaveX := congrArg (fun d : ScrD => d.SaveX) hab
 have e_SaveY : a.SaveY = b.SaveY := congrArg (fun d : ScrD => d.SaveY) hab
 have e_SaveA : a.SaveA = b.SaveA := congrArg (fun d : ScrD => d.SaveA) hab
 have e_SaveA_Fg : a.SaveA.Fg = b.SaveA.Fg := congrArg (fun d : ScrD => d.SaveA.Fg) hab
 have e_SaveA_Bg : a.SaveA.Bg = b.SaveA.Bg := congrArg (fun d : ScrD => d.SaveA.Bg) hab
 have e_SaveA_Bold : a.SaveA.Bold = b.SaveA.Bold := congrArg (fun d : ScrD => d.SaveA.Bold) hab
 have e_SaveA_Under : a.SaveA.Under = b.SaveA.Under := congrArg (fun d : ScrD => d.SaveA.Under) hab
 have e_SaveA_Turn : a.SaveA.Turn = b.SaveA.Turn := congrArg (fun d : ScrD => d.SaveA.Turn) hab
 have e_Tabs : a.Tabs.xs = b.Tabs.xs := congrArg (fun d : ScrD => d.Tabs) hab
 have e_Limit : a.Limit = b.Limit := congrArg (fun d : ScrD => d.Limit) hab
 have e_Back : a.Back.xs.map RowR.dat = b.Back.xs.map RowR.dat := congrArg (fun d : ScrD => d.Back) hab
 refine enter (vs := [.agg #[i64 a.W, i64 a.H, i64 a.Main.W, i64 a.Main.H, .slice a.Main.Cells.A a.Main.Cells.n a.Main.Cells.c, i64 a.Alt.W, i64 a.Alt.H, .slice a.Alt.Cells.A a.Alt.Cells.n a.Alt.Cells.c, .bool a.OnAlt, i64 a.X, i64 a.Y, .bool a.Wrap, i64 a.A.Fg, i64 a.A.Bg, .bool a.A.Bold, .bool a.A.Under, .bool a.A.Turn, i64 a.Top, i64 a.Bot, .bool a.NoWrap, .bool a.Hide, i64 a.SaveX, i64 a.SaveY, i64 a.SaveA.Fg, i64 a.SaveA.Bg, .bool a.SaveA.Bold, .bool a.SaveA.Under, .bool a.SaveA.Turn, .slice a.Tabs.A a.Tabs.n a.Tabs.c, i64 a.Limit, .slice a.Back.A a.Back.n a.Back.c], .agg #[i64 b.W, i64 b.H, i64 b.Main.W, i64 b.Main.H, .slice b.Main.Cells.A b.Main.Cells.n b.Main.Cells.c, i64 b.Alt.W, i64 b.Alt.H, .slice b.Alt.Cells.A b.Alt.Cells.n b.Alt.Cells.c, .bool b.OnAlt, i64 b.X, i64 b.Y, .bool b.Wrap, i64 b.A.Fg, i64 b.A.Bg, .bool b.A.Bold, .bool b.A.Under, .bool b.A.Turn, i64 b.Top, i64 b.Bot, .bool b.NoWrap, .bool b.Hide, i64 b.SaveX, i64 b.SaveY, i64 b.SaveA.Fg, i64 b.SaveA.Bg, .bool b.SaveA.Bold, .bool b.SaveA.Under, .bool b.SaveA.Turn, .slice b.Tabs.A b.Tabs.n b.Tabs.c, i64 b.Limit, .slice b.Back.A b.Back.n b.Back.c]]) 106 Tryz.func33 rfl Tryz.ntmps33 rfl rfl ?_
 have hs1 := St.init w
 refine WC.sr ?_
 refine WL.bx hs1 rfl (fun b2 _ hs3 => ?_)
 refine WL.bx hs3 rfl (fun b4 _ hs5 => ?_)
 refine WL.run tbk 1 hs5 [] rfl trivial ?_
 refine WL.nil ?_
 refine WC.seq (fun K6 hK6 => ?_)
 refine WC.rr tbk hs5 [1, 0] rfl ⟨rfl, rfl, trivial⟩ ?_
 refine WC.condF rfl (by simp [e_W, e_H, e_Main_W, e_Main_H, e_Alt_W, e_Alt_H, e_OnAlt, e_X, e_Y, e_Wrap, e_A_Fg, e_A_Bg, e_A_Bold, e_A_Under, e_A_Turn, e_Top, e_Bot, e_NoWrap, e_Hide, e_SaveX, e_SaveY, e_SaveA_Fg, e_SaveA_Bg, e_SaveA_Bold, e_SaveA_Under, e_SaveA_Turn, e_Limit]) ?_
 refine WC.skip ?_
 refine hK6 _ _ ?_
 refine WC.seq (fun K8 hK8 => ?_)
 refine WC.rr tbk hs5 [1, 0] rfl ⟨rfl, rfl, trivial⟩ ?_
 refine WC.condF rfl (by simp [e_W, e_H, e_Main_W, e_Main_H, e_Alt_W, e_Alt_H, e_OnAlt, e_X, e_Y, e_Wrap, e_A_Fg, e_A_Bg, e_A_Bold, e_A_Under, e_A_Turn, e_Top, e_Bot, e_NoWrap, e_Hide, e_SaveX, e_SaveY, e_SaveA_Fg, e_SaveA_Bg, e_SaveA_Bold, e_SaveA_Under, e_SaveA_Turn, e_Limit]) ?_
 refine WC.skip ?_
 refine hK8 _ _ ?_
 refine WC.seq (fun K10 hK10 => ?_)
 refine WC.sr ?_
 refine WL.run tbk 4 hs5 [1, 0] rfl ⟨rfl, rfl, trivial⟩ ?_
 refine WL.call rfl rfl rfl (Run.call Tryz.call99 rfl rfl rfl) (c_laws_eqGrid a.Main b.Main _ (okGridR.st0 f_a.Main hs5) (okGridR.st0 f_b.Main hs5) ?_) ?_
 · first | assumption | rfl | omega
 rintro _ whs11 ⟨rfl, hs11⟩
 replace hs11 := hs5.call0 hs11
 refine ⟨_, rfl, ?_⟩
 refine WL.run tbk 1 hs11 [] rfl trivial ?_
 refine WL.nil ?_
 refine WC.condF rfl (by simp [e_W, e_H, e_Main_W, e_Main_H, e_Alt_W, e_Alt_H, e_OnAlt, e_X, e_Y, e_Wrap, e_A_Fg, e_A_Bg, e_A_Bold, e_A_Under, e_A_Turn, e_Top, e_Bot, e_NoWrap, e_Hide, e_SaveX, e_SaveY, e_SaveA_Fg, e_SaveA_Bg, e_SaveA_Bold, e_SaveA_Under, e_SaveA_Turn, e_Limit]) ?_
 refine WC.skip ?_
 refine hK10 _ _ ?_
 refine WC.seq (fun K13 hK13 => ?_)
 refine WC.sr ?_
 refine WL.run tbk 4 hs11 [1, 0] rfl ⟨rfl, rfl, trivial⟩ ?_
 refine WL.call rfl rfl rfl (Run.call Tryz.call99 rfl rfl rfl) (c_laws_eqGrid a.Alt b.Alt _ (okGridR.st0 f_a.Alt hs11) (okGridR.st0 f_b.Alt hs11) ?_) ?_
 · first | assumption | rfl | omega
 rintro _ whs14 ⟨rfl, hs14⟩
 replace hs14 := hs11.call0 hs14
 refine ⟨_, rfl, ?_⟩
 refine WL.run tbk 1 hs14 [] rfl trivial ?_
 refine WL.nil ?_
 refine WC.condF rfl (by simp [e_W, e_H, e_Main_W, e_Main_H, e_Alt_W, e_Alt_H, e_OnAlt, e_X, e_Y, e_Wrap, e_A_Fg, e_A_Bg, e_A_Bold, e_A_Under, e_A_Turn, e_Top, e_Bot, e_NoWrap, e_Hide, e_SaveX, e_SaveY, e_SaveA_Fg, e_SaveA_Bg, e_SaveA_Bold, e_SaveA_Under, e_SaveA_Turn, e_Limit]) ?_
 refine WC.skip ?_
 refine hK13 _ _ ?_
 refine WC.seq (fun K16 hK16 => ?_)
 refine WC.rr tbk hs14 [1, 0] rfl ⟨rfl, rfl, trivial⟩ ?_
 refine WC.condF rfl (by simp [e_W, e_H, e_Main_W, e_Main_H, e_Alt_W, e_Alt_H, e_OnAlt, e_X, e_Y, e_Wrap, e_A_Fg, e_A_Bg, e_A_Bold, e_A_Under, e_A_Turn, e_Top, e_Bot, e_NoWrap, e_Hide, e_SaveX, e_SaveY, e_SaveA_Fg, e_SaveA_Bg, e_SaveA_Bold, e_SaveA_Under, e_SaveA_Turn, e_Limit]) ?_
 refine WC.skip ?_
 refine hK16 _ _ ?_
 refine WC.seq (fun K18 hK18 => ?_)
 refine WC.rr tbk hs14 [1, 0] rfl ⟨rfl, rfl, trivial⟩ ?_
 refine WC.condF rfl (by simp [e_W, e_H, e_Main_W, e_Main_H, e_Alt_W, e_Alt_H, e_OnAlt, e_X, e_Y, e_Wrap, e_A_Fg, e_A_Bg, e_A_Bold, e_A_Under, e_A_Turn, e_Top, e_Bot, e_NoWrap, e_Hide, e_SaveX, e_SaveY, e_SaveA_Fg, e_SaveA_Bg, e_SaveA_Bold, e_SaveA_Under, e_SaveA_Turn, e_Limit]) ?_
 refine WC.skip ?_
 refine hK18 _ _ ?_
 refine WC.seq (fun K20 hK20 => ?_)
 refine WC.rr tbk hs14 [1, 0] rfl ⟨rfl, rfl, trivial⟩ ?_
 refine WC.condF rfl (by simp [e_W, e_H, e_Main_W, e_Main_H, e_Alt_W, e_Alt_H, e_OnAlt, e_X, e_Y, e_Wrap, e_A_Fg, e_A_Bg, e_A_Bold, e_A_Under, e_A_Turn, e_Top, e_Bot, e_NoWrap, e_Hide, e_SaveX, e_SaveY, e_SaveA_Fg, e_SaveA_Bg, e_SaveA_Bold, e_SaveA_Under, e_SaveA_Turn, e_Limit]) ?_
 refine WC.skip ?_
 refine hK20 _ _ ?_
 refine WC.seq (fun K22 hK22 => ?_)
 refine WC.rr tbk hs14 [1, 0] rfl ⟨rfl, rfl, trivial⟩ ?_
 refine WC.condF rfl (by simp [e_W, e_H, e_Main_W, e_Main_H, e_Alt_W, e_Alt_H, e_OnAlt, e_X, e_Y, e_Wrap, e_A_Fg, e_A_Bg, e_A_Bold, e_A_Under, e_A_Turn, e_Top, e_Bot, e_NoWrap, e_Hide, e_SaveX, e_SaveY, e_SaveA_Fg, e_SaveA_Bg, e_SaveA_Bold, e_SaveA_Under, e_SaveA_Turn, e_Limit]) ?_
 refine WC.skip ?_
 refine hK22 _ _ ?_
 refine WC.seq (fun K24 hK24 => ?_)
 refine WC.sr ?_
 refine WL.run tbk 4 hs14 [1, 0] rfl ⟨rfl, rfl, trivial⟩ ?_
 refine WL.call rfl rfl rfl (Run.call Tryz.call100 rfl rfl rfl) (c_laws_eqAttr _ _ _ _ _ _ _ _ _ _ _ ?_) ?_
 · first | assumption | rfl | omega
 rintro _ whs25 ⟨rfl, hs25⟩
 replace hs25 := hs14.call0 hs25
 refine ⟨_, rfl, ?_⟩
 refine WL.run tbk 1 hs25 [] rfl trivial ?_
 refine WL.nil ?_
 refine WC.condF rfl (by simp [e_W, e_H, e_Main_W, e_Main_H, e_Alt_W, e_Alt_H, e_OnAlt, e_X, e_Y, e_Wrap, e_A_Fg, e_A_Bg, e_A_Bold, e_A_Under, e_A_Turn, e_Top, e_Bot, e_NoWrap, e_Hide, e_SaveX, e_SaveY, e_SaveA_Fg, e_SaveA_Bg, e_SaveA_Bold, e_SaveA_Under, e_SaveA_Turn, e_Limit]) ?_
 refine WC.skip ?_
 refine hK24 _ _ ?_
 refine WC.seq (fun K27 hK27 => ?_)
 refine WC.rr tbk hs25 [1, 0] rfl ⟨rfl, rfl, trivial⟩ ?_
 refine WC.condF rfl (by simp [e_W, e_H, e_Main_W, e_Main_H, e_Alt_W, e_Alt_H, e_OnAlt, e_X, e_Y, e_Wrap, e_A_Fg, e_A_Bg, e_A_Bold, e_A_Under, e_A_Turn, e_Top, e_Bot, e_NoWrap, e_Hide, e_SaveX, e_SaveY, e_SaveA_Fg, e_SaveA_Bg, e_SaveA_Bold, e_SaveA_Under, e_SaveA_Turn, e_Limit]) ?_
 refine WC.skip ?_
 refine hK27 _ _ ?_
 refine WC.seq (fun K29 hK29 => ?_)
 refine WC.rr tbk hs25 [1, 0] rfl ⟨rfl, rfl, trivial⟩ ?_
 refine WC.condF rfl (by simp [e_W, e_H, e_Main_W, e_Main_H, e_Alt_W, e_Alt_H, e_OnAlt, e_X, e_Y, e_Wrap, e_A_Fg, e_A_Bg, e_A_Bold, e_A_Under, e_A_Turn, e_Top, e_Bot, e_NoWrap, e_Hide, e_SaveX, e_SaveY, e_SaveA_Fg, e_SaveA_Bg, e_SaveA_Bold, e_SaveA_Under, e_SaveA_Turn, e_Limit]) ?_
 refine WC.skip ?_
 refine hK29 _ _ ?_
 refine WC.seq (fun K31 hK31 => ?_)
 refine WC.rr tbk hs25 [1, 0] rfl ⟨rfl, rfl, trivial⟩ ?_
 refine WC.condF rfl (by simp [e_W, e_H, e_Main_W, e_Main_H, e_Alt_W, e_Alt_H, e_OnAlt, e_X, e_Y, e_Wrap, e_A_Fg, e_A_Bg, e_A_Bold, e_A_Under, e_A_Turn, e_Top, e_Bot, e_NoWrap, e_Hide, e_SaveX, e_SaveY, e_SaveA_Fg, e_SaveA_Bg, e_SaveA_Bold, e_SaveA_Under, e_SaveA_Turn, e_Limit]) ?_
 refine WC.skip ?_
 refine hK31 _ _ ?_
 refine WC.seq (fun K33 hK33 => ?_)
 refine WC.rr tbk hs25 [1, 0] rfl ⟨rfl, rfl, trivial⟩ ?_
 refine WC.condF rfl (by simp [e_W, e_H, e_Main_W, e_Main_H, e_Alt_W, e_Alt_H, e_OnAlt, e_X, e_Y, e_Wrap, e_A_Fg, e_A_Bg, e_A_Bold, e_A_Under, e_A_Turn, e_Top, e_Bot, e_NoWrap, e_Hide, e_SaveX, e_SaveY, e_SaveA_Fg, e_SaveA_Bg, e_SaveA_Bold, e_SaveA_Under, e_SaveA_Turn, e_Limit]) ?_
 refine WC.skip ?_
 refine hK33 _ _ ?_
 refine WC.seq (fun K35 hK35 => ?_)
 refine WC.rr tbk hs25 [1, 0] rfl ⟨rfl, rfl, trivial⟩ ?_
 refine WC.condF rfl (by simp [e_W, e_H, e_Main_W, e_Main_H, e_Alt_W, e_Alt_H, e_OnAlt, e_X, e_Y, e_Wrap, e_A_Fg, e_A_Bg, e_A_Bold, e_A_Under, e_A_Turn, e_Top, e_Bot, e_NoWrap, e_Hide, e_SaveX, e_SaveY, e_SaveA_Fg, e_SaveA_Bg, e_SaveA_Bold, e_SaveA_Under, e_SaveA_Turn, e_Limit]) ?_
 refine WC.skip ?_
 refine hK35 _ _ ?_
 refine WC.seq (fun K37 hK37 => ?_)
 refine WC.rr tbk hs25 [1, 0] rfl ⟨rfl, rfl, trivial⟩ ?_
 refine WC.condF rfl (by simp [e_W, e_H, e_Main_W, e_Main_H, e_Alt_W, e_Alt_H, e_OnAlt, e_X, e_Y, e_Wrap, e_A_Fg, e_A_Bg, e_A_Bold, e_A_Under, e_A_Turn, e_Top, e_Bot, e_NoWrap, e_Hide, e_SaveX, e_SaveY, e_SaveA_Fg, e_SaveA_Bg, e_SaveA_Bold, e_SaveA_Under, e_SaveA_Turn, e_Limit]) ?_
 refine WC.skip ?_
 refine hK37 _ _ ?_
 refine WC.seq (fun K39 hK39 => ?_)
 refine WC.sr ?_
 refine WL.run tbk 4 hs25 [1, 0] rfl ⟨rfl, rfl, trivial⟩ ?_
 refine WL.call rfl rfl rfl (Run.call Tryz.call100 rfl rfl rfl) (c_laws_eqAttr _ _ _ _ _ _ _ _ _ _ _ ?_) ?_
 · first | assumption | rfl | omega
 rintro _ whs40 ⟨rfl, hs40⟩
 replace hs40 := hs25.call0 hs40
 refine ⟨_, rfl, ?_⟩
 refine WL.run tbk 1 hs40 [] rfl trivial ?_
 refine WL.nil ?_
 refine WC.condF rfl (by simp [e_W, e_H, e_Main_W, e_Main_H, e_Alt_W, e_Alt_H, e_OnAlt, e_X, e_Y, e_Wrap, e_A_Fg, e_A_Bg, e_A_Bold, e_A_Under, e_A_Turn, e_Top, e_Bot, e_NoWrap, e_Hide, e_SaveX, e_SaveY, e_SaveA_Fg, e_SaveA_Bg, e_SaveA_Bold, e_SaveA_Under, e_SaveA_Turn, e_Limit]) ?_
 refine WC.skip ?_
 refine hK39 _ _ ?_
 refine WC.seq (fun K42 hK42 => ?_)
 refine WC.sr ?_
 refine WL.run tbk 4 hs40 [1, 0] rfl ⟨rfl, rfl, trivial⟩ ?_
 refine WL.call rfl rfl rfl (Run.call Tryz.call39 rfl rfl rfl) (c_laws_eqIntS _ _ _ _ _ _ _ _ _ (SlF.st0 f_a.Tabs hs40) (SlF.st0 f_b.Tabs hs40) ?_ ?_) ?_
 · first | assumption | rfl | omega
 · first | assumption | rfl | omega
 rintro _ whs43 ⟨rfl, hs43⟩
 replace hs43 := hs40.call0 hs43
 refine ⟨_, rfl, ?_⟩
 refine WL.run tbk 1 hs43 [] rfl trivial ?_
 refine WL.nil ?_
 refine WC.condF rfl (by simp [e_W, e_H, e_Main_W, e_Main_H, e_Alt_W, e_Alt_H, e_OnAlt, e_X, e_Y, e_Wrap, e_A_Fg, e_A_Bg, e_A_Bold, e_A_Under, e_A_Turn, e_Top, e_Bot, e_NoWrap, e_Hide, e_SaveX, e_SaveY, e_SaveA_Fg, e_SaveA_Bg, e_SaveA_Bold, e_SaveA_Under, e_SaveA_Turn, e_Limit]) ?_
 refine WC.skip ?_
 refine hK42 _ _ ?_
 refine WC.seq (fun K45 hK45 => ?_)
 refine WC.rr tbk hs43 [1, 0] rfl ⟨rfl, rfl, trivial⟩ ?_
 refine WC.condF rfl (by simp [e_W, e_H, e_Main_W, e_Main_H, e_Alt_W, e_Alt_H, e_OnAlt, e_X, e_Y, e_Wrap, e_A_Fg, e_A_Bg, e_A_Bold, e_A_Under, e_A_Turn, e_Top, e_Bot, e_NoWrap, e_Hide, e_SaveX, e_SaveY, e_SaveA_Fg, e_SaveA_Bg, e_SaveA_Bold, e_SaveA_Under, e_SaveA_Turn, e_Limit]) ?_
 refine WC.skip ?_
 refine hK45 _ _ ?_
 refine WC.seq (fun K47 hK47 => ?_)
 refine WC.sr ?_
 refine WL.run tbk 4 hs43 [1, 0] rfl ⟨rfl, rfl, trivial⟩ ?_
 refine WL.call rfl rfl rfl (Run.call Tryz.call101 rfl rfl rfl) (c_laws_eqRowS _ _ _ _ _ _ _ _ _ (SlN.st0 okRowR.st0 f_a.Back hs43) (SlN.st0 okRowR.st0 f_b.Back hs43) ?_ ?_) ?_
 · first | assumption | rfl | omega
 · first | assumption | rfl | omega
 rintro _ whs48 ⟨rfl, hs48⟩
 replace hs48 := hs43.call0 hs48
 refine ⟨_, rfl, ?_⟩
 refine WL.run tbk 1 hs48 [] rfl trivial ?_
 refine WL.nil ?_
 refine WC.condF rfl (by simp [e_W, e_H, e_Main_W, e_Main_H, e_Alt_W, e_Alt_H, e_OnAlt, e_X, e_Y, e_Wrap, e_A_Fg, e_A_Bg, e_A_Bold, e_A_Under, e_A_Turn, e_Top, e_Bot, e_NoWrap, e_Hide, e_SaveX, e_SaveY, e_SaveA_Fg, e_SaveA_Bg, e_SaveA_Bold, e_SaveA_Under, e_SaveA_Turn, e_Limit]) ?_
 refine WC.skip ?_
 refine hK47 _ _ ?_
 refine WC.rr tbk hs48 [] rfl trivial ?_
 refine WC.ret ?_
 refine retV1 rfl (resV.tmp rfl) ?_
 refine ⟨congrArg Ending.returned ?_, hs48.nil⟩
 rfl
set_option maxHeartbeats 4000000 in
theorem c_laws_szScr (a : ScrR) (left : Int) (w : World) (f_a : okScrR 9223372036854775807 w a) (h1 : 0 ≤ left) (h2 : left ≤ 1048576) :
    Calls Tryz.prog 29 #[.agg #[i64 a.W, i64 a.H, i64 a.Main.W, i64 a.Main.H, .slice a.Main.Cells.A a.Main.Cells.n a.Main.Cells.c, i64 a.Alt.W, i64 a.Alt.H, .slice a.Alt.Cells.A a.Alt.Cells.n a.Alt.Cells.c, .bool a.OnAlt, i64 a.X, i64 a.Y, .bool a.Wrap, i64 a.A.Fg, i64 a.A.Bg, .bool a.A.Bold, .bool a.A.Under, .bool a.A.Turn, i64 a.Top, i64 a.Bot, .bool a.NoWrap, .bool a.Hide, i64 a.SaveX, i64 a.SaveY, i64 a.SaveA.Fg, i64 a.SaveA.Bg, .bool a.SaveA.Bold, .bool a.SaveA.Under, .bool a.SaveA.Turn, .slice a.Tabs.A a.Tabs.n a.Tabs.c, i64 a.Limit, .slice a.Back.A a.Back.n a.Back.c], i64 left] w fun e w' => e = .returned (.int .i64 (szR left (totScr a.dat))) ∧ St w [] [] w' := by
 have nb_a_Main_Cells := f_a.Main.Cells_n
 have nl_a_Main_Cells := f_a.Main.Cells.len
 have nb_a_Alt_Cells := f_a.Alt.Cells_n
 have nl_a_Alt_Cells := f_a.Alt.Cells.len
 have nb_a_Tabs := f_a.Tabs_n
 have nl_a_Tabs := f_a.Tabs.len
 have nb_a_Back := f_a.Back_n
 have nl_a_Back := f_a.Back.sl.len
 refine enter (vs := [.agg #[i64 a.W, i64 a.H, i64 a.Main.W, i64 a.Main.H, .slice a.Main.Cells.A a.Main.Cells.n a.Main.Cells.c, i64 a.Alt.W, i64 a.Alt.H, .slice a.Alt.Cells.A a.Alt.Cells.n a.Alt.Cells.c, .bool a.OnAlt, i64 a.X, i64 a.Y, .bool a.Wrap, i64 a.A.Fg, i64 a.A.Bg, .bool a.A.Bold, .bool a.A.Under, .bool a.A.Turn, i64 a.Top, i64 a.Bot, .bool a.NoWrap, .bool a.Hide, i64 a.SaveX, i64 a.SaveY, i64 a.SaveA.Fg, i64 a.SaveA.Bg, .bool a.SaveA.Bold, .bool a.SaveA.Under, .bool a.SaveA.Turn, .slice a.Tabs.A a.Tabs.n a.Tabs.c, i64 a.Limit, .slice a.Back.A a.Back.n a.Back.c], i64 left]) 30 Tryz.func29 rfl Tryz.ntmps29 rfl rfl ?_
 have hs1 := St.init w
 refine WC.sr ?_
 refine WL.bx hs1 rfl (fun b2 _ hs3 => ?_)
 refine WL.run tbk 1 hs3 [] rfl trivial ?_
 refine WL.nil ?_
 refine WC.sr ?_
 refine WL.run tbk 3 hs3 [0] rfl ⟨rfl, trivial⟩ ?_
 refine WL.call rfl rfl rfl (Run.call Tryz.call82 rfl rfl rfl) (c_laws_szGrid a.Main _ _ (okGridR.st0 f_a.Main hs3) ?_ ?_) ?_
 · first | assumption | omega
 · first | assumption | omega | exact szR_b (by assumption) (by omega) (by first | assumption | omega)
 rintro _ whs4 ⟨rfl, hs4⟩
 replace hs4 := hs3.call0 hs4
 refine ⟨_, rfl, ?_⟩
 refine WL.run tbk 1 hs4 [] rfl trivial ?_
 refine WL.nil ?_
 refine WC.seq (fun K5 hK5 => ?_)
 refine WC.rr tbk hs4 [] rfl trivial ?_
 refine WC.cD rfl (fun qh6 => ?_) (fun qh6 => ?_)
 ·try have soh6 := szR_ok qh6 (by omega)
  try have sbh6 := szR_b qh6 (by omega) (by first | assumption | omega)
  try have snh6 := szR_no qh6
  refine WC.rr tbk hs4 [] rfl trivial ?_
  refine WC.ret ?_
  refine tkR ?_
  clear hK5
  refine retV1 rfl (resV.tmp rfl) ?_
  refine ⟨congrArg Ending.returned ?_, hs4.nil⟩
  simp only [totGrid, totScr, GridR.dat, ScrR.dat] at *; first | (rw [szR_lt (by omega)]; done) | (refine congrArg (Value.int _) ?_; symm; refine (szR_le ?_).trans ?_ <;> omega) | rfl
 ·try have soh6 := szR_ok qh6 (by omega)
  try have sbh6 := szR_b qh6 (by omega) (by first | assumption | omega)
  try have snh6 := szR_no qh6
  refine WC.skip ?_
  refine hK5 _ _ ?_
  refine WC.sr ?_
  refine WL.run tbk 3 hs4 [0] rfl ⟨rfl, trivial⟩ ?_
  refine WL.call rfl rfl rfl (Run.call Tryz.call82 rfl rfl rfl) (c_laws_szGrid a.Alt _ _ (okGridR.st0 f_a.Alt hs4) ?_ ?_) ?_
  · first | assumption | omega
  · first | assumption | omega | exact szR_b (by assumption) (by omega) (by first | assumption | omega)
  rintro _ whs7 ⟨rfl, hs7⟩
  replace hs7 := hs4.call0 hs7
  refine ⟨_, rfl, ?_⟩
  refine WL.run tbk 1 hs7 [] rfl trivial ?_
  refine WL.nil ?_
  refine WC.seq (fun K8 hK8 => ?_)
  refine WC.rr tbk hs7 [] rfl trivial ?_
  refine WC.cD rfl (fun qh9 => ?_) (fun qh9 => ?_)
  ·try have soh9 := szR_ok qh9 (by omega)
   try have sbh9 := szR_b qh9 (by omega) (by first | assumption | omega)
   try have snh9 := szR_no qh9
   refine WC.rr tbk hs7 [] rfl trivial ?_
   refine WC.ret ?_
   refine tkR ?_
   clear hK8
   refine retV1 rfl (resV.tmp rfl) ?_
   refine ⟨congrArg Ending.returned ?_, hs7.nil⟩
   simp only [totGrid, totScr, GridR.dat, ScrR.dat] at *; first | (rw [szR_lt (by omega)]; done) | (refine congrArg (Value.int _) ?_; symm; refine (szR_le ?_).trans ?_ <;> omega) | rfl
  ·try have soh9 := szR_ok qh9 (by omega)
   try have sbh9 := szR_b qh9 (by omega) (by first | assumption | omega)
   try have snh9 := szR_no qh9
   refine WC.skip ?_
   refine hK8 _ _ ?_
   refine WC.sr ?_
   refine WL.run tbk 3 hs7 [0] rfl ⟨rfl, trivial⟩ ?_
   refine WL.call rfl rfl rfl (Run.call Tryz.call83 rfl rfl rfl) (c_laws_szIntS _ _ _ _ _ _ (SlF.st0 f_a.Tabs hs7) ?_ ?_ ?_) ?_
   · first | assumption | omega
   · first | assumption | omega | exact szR_b (by assumption) (by omega) (by first | assumption | omega)
   · first | assumption | omega
   rintro _ whs10 ⟨rfl, hs10⟩
   replace hs10 := hs7.call0 hs10
   refine ⟨_, rfl, ?_⟩
   refine WL.run tbk 1 hs10 [] rfl trivial ?_
   refine WL.nil ?_
   refine WC.seq (fun K11 hK11 => ?_)
   refine WC.rr tbk hs10 [] rfl trivial ?_
   refine WC.cD rfl (fun qh12 => ?_) (fun qh12 => ?_)
   ·try have soh12 := szR_ok qh12 (by omega)
    try have sbh12 := szR_b qh12 (by omega) (by first | assumption | omega)
    try have snh12 := szR_no qh12
    refine WC.rr tbk hs10 [] rfl trivial ?_
    refine WC.ret ?_
    refine tkR ?_
    clear hK11
    refine retV1 rfl (resV.tmp rfl) ?_
    refine ⟨congrArg Ending.returned ?_, hs10.nil⟩
    simp only [totGrid, totScr, GridR.dat, ScrR.dat] at *; first | (rw [szR_lt (by omega)]; done) | (refine congrArg (Value.int _) ?_; symm; refine (szR_le ?_).trans ?_ <;> omega) | rfl
   ·try have soh12 := szR_ok qh12 (by omega)
    try have sbh12 := szR_b qh12 (by omega) (by first | assumption | omega)
    try have snh12 := szR_no qh12
    refine WC.skip ?_
    refine hK11 _ _ ?_
    refine WC.sr ?_
    refine WL.run tbk 3 hs10 [0] rfl ⟨rfl, trivial⟩ ?_
    refine WL.call rfl rfl rfl (Run.call Tryz.call84 rfl rfl rfl) (c_laws_szRowS _ _ _ _ _ _ (SlN.st0 okRowR.st0 f_a.Back hs10) ?_ ?_ ?_) ?_
    · first | assumption | omega
    · first | assumption | omega | exact szR_b (by assumption) (by omega) (by first | assumption | omega)
    · first | assumption | omega
    rintro _ whs13 ⟨rfl, hs13⟩
    replace hs13 := hs10.call0 hs13
    refine ⟨_, rfl, ?_⟩
    refine WL.run tbk 1 hs13 [] rfl trivial ?_
    refine WL.nil ?_
    refine WC.seq (fun K14 hK14 => ?_)
    refine WC.rr tbk hs13 [] rfl trivial ?_
    refine WC.cD rfl (fun qh15 => ?_) (fun qh15 => ?_)
    ·try have soh15 := szR_ok qh15 (by omega)
     try have sbh15 := szR_b qh15 (by omega) (by first | assumption | omega)
     try have snh15 := szR_no qh15
     refine WC.rr tbk hs13 [] rfl trivial ?_
     refine WC.ret ?_
     refine tkR ?_
     clear hK14
     refine retV1 rfl (resV.tmp rfl) ?_
     refine ⟨congrArg Ending.returned ?_, hs13.nil⟩
     simp only [totGrid, totScr, GridR.dat, ScrR.dat] at *; first | (rw [szR_lt (by omega)]; done) | (refine congrArg (Value.int _) ?_; symm; refine (szR_le ?_).trans ?_ <;> omega) | rfl
    ·try have soh15 := szR_ok qh15 (by omega)
     try have sbh15 := szR_b qh15 (by omega) (by first | assumption | omega)
     try have snh15 := szR_no qh15
     refine WC.skip ?_
     refine hK14 _ _ ?_
     refine WC.rr tbk hs13 [] rfl trivial ?_
     refine WC.ret ?_
     refine retV1 rfl (resV.tmp rfl) ?_
     refine ⟨congrArg Ending.returned ?_, hs13.nil⟩
     simp only [totGrid, totScr, GridR.dat, ScrR.dat] at *; first | (rw [szR_lt (by omega)]; done) | (refine congrArg (Value.int _) ?_; symm; refine (szR_le ?_).trans ?_ <;> omega) | rfl
set_option maxHeartbeats 4000000 in
theorem c_laws_markScr (a : ScrR) (L_a : Hp) (k : Int) (w : World) (o_a : ownScrR a L_a) (h_a : ∀ p, p ∈ L_a → w.heap[p.1]? = some p.2) (hd_ : ((L_a).map (·.1)).Nodup) (h1 : 0 ≤ k) (h2 : endScr k a ≤ 549755813888) (hb_Back : a.Back.xs.length ≤ 549755813888) :
    Calls Tryz.prog 34 #[.agg #[i64 a.W, i64 a.H, i64 a.Main.W, i64 a.Main.H, .slice a.Main.Cells.A a.Main.Cells.n a.Main.Cells.c, i64 a.Alt.W, i64 a.Alt.H, .slice a.Alt.Cells.A a.Alt.Cells.n a.Alt.Cells.c, .bool a.OnAlt, i64 a.X, i64 a.Y, .bool a.Wrap, i64 a.A.Fg, i64 a.A.Bg, .bool a.A.Bold, .bool a.A.Under, .bool a.A.Turn, i64 a.Top, i64 a.Bot, .bool a.NoWrap, .bool a.Hide, i64 a.SaveX, i64 a.SaveY, i64 a.SaveA.Fg, i64 a.SaveA.Bg, .bool a.SaveA.Bold, .bool a.SaveA.Under, .bool a.SaveA.Turn, .slice a.Tabs.A a.Tabs.n a.Tabs.c, i64 a.Limit, .slice a.Back.A a.Back.n a.Back.c], i64 k] w fun e w' => ∃ L1, e = .returned (.int .i64 (endScr k a)) ∧ St w (L_a.map (·.1)) L1 w' ∧ ownScrR (markScr k a) L1 := by
 have hq2 := h2
 simp only [endGrid, endScr] at hq2
 have hcn_Back := cnts_nonneg (c := cntERow) (fun x => by simp only [cntERow]; omega) a.Back.xs
 refine enter (vs := [.agg #[i64 a.W, i64 a.H, i64 a.Main.W, i64 a.Main.H, .slice a.Main.Cells.A a.Main.Cells.n a.Main.Cells.c, i64 a.Alt.W, i64 a.Alt.H, .slice a.Alt.Cells.A a.Alt.Cells.n a.Alt.Cells.c, .bool a.OnAlt, i64 a.X, i64 a.Y, .bool a.Wrap, i64 a.A.Fg, i64 a.A.Bg, .bool a.A.Bold, .bool a.A.Under, .bool a.A.Turn, i64 a.Top, i64 a.Bot, .bool a.NoWrap, .bool a.Hide, i64 a.SaveX, i64 a.SaveY, i64 a.SaveA.Fg, i64 a.SaveA.Bg, .bool a.SaveA.Bold, .bool a.SaveA.Under, .bool a.SaveA.Turn, .slice a.Tabs.A a.Tabs.n a.Tabs.c, i64 a.Limit, .slice a.Back.A a.Back.n a.Back.c], i64 k]) 22 Tryz.func34 rfl Tryz.ntmps34 rfl rfl ?_
 have hs1 := St.takes1 w L_a h_a hd_
 refine WC.sr ?_
 refine WL.bx hs1 rfl (fun b2 _ hs3 => ?_)
 refine WL.run tbk 1 hs3 [] rfl trivial ?_
 refine WL.nil ?_
 refine WC.sr ?_
 refine WL.run tbk 3 hs3 [0] rfl ⟨rfl, trivial⟩ ?_
 obtain ⟨L4, L5, L6, L7, hs12, ho8, ho9, ho10, ho11⟩ := ownScrR.open_ (St.perm hs3 (L' := L_a ++ _) (perm_front (A := [_]) (List.Perm.refl _))) o_a
 have hs13 := (St.perm hs12 (L' := [_] ++ _) (perm_front (A := L4) (perm_front (A := L5) (perm_front (A := L6) (perm_front (A := L7) (List.Perm.refl _))))))
 refine WL.call rfl rfl rfl (Run.call Tryz.call102 rfl rfl rfl) (c_laws_markGrid ⟨a.Main.W, a.Main.H, SlD.of ho8⟩ _ _ _ ho8 (fun p_ hp_ => (hs13.own p_ (List.mem_append_right [_] (List.mem_append_left _ hp_))).1) (St.nodupL (St.perm hs13 (L' := L4 ++ _) (perm_front (A := [_]) (List.Perm.refl _)))) ?_ ?_) ?_
 · first | (first | assumption | omega) | (simp only [endGrid, endScr]; omega)
 · first | (first | assumption | omega | (simp only [endGrid]; omega)) | (simp only [endGrid, endScr]; omega)
 rintro _ whs14 ⟨L1_15, rfl, hs14, ho16⟩
 replace hs14 := St.lend (St.perm hs13 (L' := L4 ++ _) (perm_front (A := [_]) (List.Perm.refl _))) hs14
 refine ⟨_, rfl, ?_⟩
 replace hs14 := St.back [_] hs14
 refine WL.run tbk 1 hs14 [] rfl trivial ?_
 refine WL.nil ?_
 refine WC.sr ?_
 refine WL.run tbk 3 hs14 [0] rfl ⟨rfl, trivial⟩ ?_
 refine WL.call rfl rfl rfl (Run.call Tryz.call102 rfl rfl rfl) (c_laws_markGrid ⟨a.Alt.W, a.Alt.H, SlD.of ho9⟩ _ _ _ ho9 (fun p_ hp_ => (hs14.own p_ (List.mem_append_right [_] (List.mem_append_right _ (List.mem_append_left _ hp_)))).1) (St.nodupL (St.perm hs14 (L' := L5 ++ _) (perm_front (A := [_]) (perm_front (A := L1_15) (List.Perm.refl _))))) ?_ ?_) ?_
 · first | (first | assumption | omega) | (simp only [endGrid, endScr]; omega)
 · first | (first | assumption | omega | (simp only [endGrid]; omega)) | (simp only [endGrid, endScr]; omega)
 rintro _ whs17 ⟨L1_18, rfl, hs17, ho19⟩
 replace hs17 := St.lend (St.perm hs14 (L' := L5 ++ _) (perm_front (A := [_]) (perm_front (A := L1_15) (List.Perm.refl _)))) hs17
 refine ⟨_, rfl, ?_⟩
 replace hs17 := St.back [_] hs17
 refine WL.run tbk 1 hs17 [] rfl trivial ?_
 refine WL.nil ?_
 refine WC.sr ?_
 refine WL.run tbk 3 hs17 [0] rfl ⟨rfl, trivial⟩ ?_
 refine WL.call rfl rfl rfl (Run.call Tryz.call40 rfl rfl rfl) (c_laws_markIntS _ _ _ _ _ ho10 (fun p_ hp_ => (hs17.own p_ (List.mem_append_right [_] (List.mem_append_right _ (List.mem_append_right _ (List.mem_append_left _ hp_))))).1) ?_ ?_ ?_) ?_
 · first | (first | assumption | rfl | omega) | (simp only [endGrid, endScr]; omega)
 · first | (first | assumption | rfl | omega) | (simp only [endGrid, endScr]; omega)
 · first | (first | assumption | rfl | omega) | (simp only [endGrid, endScr]; omega)
 rintro _ whs20 ⟨L1_21, rfl, hs20, ho22⟩
 replace hs20 := St.lend (St.perm hs17 (L' := L6 ++ _) (perm_front (A := [_]) (perm_front (A := L1_18) (perm_front (A := L1_15) (List.Perm.refl _))))) hs20
 refine ⟨_, rfl, ?_⟩
 replace hs20 := St.back [_] hs20
 refine WL.run tbk 1 hs20 [] rfl trivial ?_
 refine WL.nil ?_
 refine WC.sr ?_
 refine WL.run tbk 3 hs20 [0] rfl ⟨rfl, trivial⟩ ?_
 refine WL.call rfl rfl rfl (Run.call Tryz.call103 rfl rfl rfl) (c_laws_markRowS _ _ _ _ _ ho11 (fun p_ hp_ => (hs20.own p_ (List.mem_append_right [_] (List.mem_append_right _ (List.mem_append_right _ (List.mem_append_right _ (List.mem_append_left _ hp_)))))).1) (St.nodupL (St.perm hs20 (L' := L7 ++ _) (perm_front (A := [_]) (perm_front (A := L1_21) (perm_front (A := L1_18) (perm_front (A := L1_15) (List.Perm.refl _))))))) ?_ ?_ ?_) ?_
 · first | (first | assumption | omega) | (simp only [endGrid, endScr]; omega)
 · first | (first | assumption | omega) | (simp only [endGrid, endScr]; omega)
 · first | (first | assumption | omega) | (simp only [endGrid, endScr]; omega)
 rintro _ whs23 ⟨L1_24, rfl, hs23, ho25⟩
 replace hs23 := St.lend (St.perm hs20 (L' := L7 ++ _) (perm_front (A := [_]) (perm_front (A := L1_21) (perm_front (A := L1_18) (perm_front (A := L1_15) (List.Perm.refl _)))))) hs23
 refine ⟨_, rfl, ?_⟩
 replace hs23 := St.back [_] hs23
 refine WL.run tbk 1 hs23 [] rfl trivial ?_
 refine WL.nil ?_
 refine WC.rr tbk hs23 [] rfl trivial ?_
 refine WC.ret ?_
 refine retV1 rfl (resV.tmp rfl) ?_
 obtain ⟨L27, hs26, ho28⟩ := ownScrR.fold ⟨0, 0, ⟨0, 0, ⟨_, _, _, _⟩⟩, ⟨0, 0, ⟨_, _, _, _⟩⟩, false, 0, 0, false, ⟨0, 0, false, false, false⟩, 0, 0, false, false, 0, 0, ⟨0, 0, false, false, false⟩, ⟨_, _, _, _⟩, 0, ⟨_, _, _, _⟩⟩ (St.perm (St.perm (St.perm (St.perm hs23 (L' := L1_24 ++ _) (perm_front (A := [_]) (List.Perm.refl _))) (L' := L1_21 ++ _) (perm_front (A := L1_24) (perm_front (A := [_]) (List.Perm.refl _)))) (L' := L1_18 ++ _) (perm_front (A := L1_21) (perm_front (A := L1_24) (perm_front (A := [_]) (List.Perm.refl _))))) (L' := L1_15 ++ _) (perm_front (A := L1_18) (perm_front (A := L1_21) (perm_front (A := L1_24) (perm_front (A := [_]) (List.Perm.refl _)))))) ho16 ho19 ho22 ho25
 have hs29 := (St.perm hs26 (L' := [_] ++ _) (perm_front (A := L27) (List.Perm.refl _)))
 refine ⟨_, congrArg Ending.returned ?_, (St.keep1 (St.perm hs29 (L' := L27 ++ _) (perm_front (A := [_]) (List.Perm.refl _)))), (by exact ho28)⟩
 first | rfl | (simp [endScr]; done) | (simp [endScr]; omega)
set_option maxHeartbeats 4000000 in
theorem c_laws_heldScr (a : ScrR) (k : Int) (w : World) (f_a : okScrR 549755813888 w (markScr k a)) (h1 : 0 ≤ k) (h2 : endScr k a ≤ 549755813888) :
    Calls Tryz.prog 35 #[.agg #[i64 a.W, i64 a.H, i64 a.Main.W, i64 a.Main.H, .slice a.Main.Cells.A a.Main.Cells.n a.Main.Cells.c, i64 a.Alt.W, i64 a.Alt.H, .slice a.Alt.Cells.A a.Alt.Cells.n a.Alt.Cells.c, .bool a.OnAlt, i64 a.X, i64 a.Y, .bool a.Wrap, i64 a.A.Fg, i64 a.A.Bg, .bool a.A.Bold, .bool a.A.Under, .bool a.A.Turn, i64 a.Top, i64 a.Bot, .bool a.NoWrap, .bool a.Hide, i64 a.SaveX, i64 a.SaveY, i64 a.SaveA.Fg, i64 a.SaveA.Bg, .bool a.SaveA.Bold, .bool a.SaveA.Under, .bool a.SaveA.Turn, .slice a.Tabs.A a.Tabs.n a.Tabs.c, i64 a.Limit, .slice a.Back.A a.Back.n a.Back.c], i64 k] w fun e w' => e = .returned (.int .i64 (endScr k a)) ∧ St w [] [] w' := by
 have fm_Main : okGridR 549755813888 w (markGrid k a.Main) := f_a.Main
 have fm_Alt : okGridR 549755813888 w (markGrid (endGrid k a.Main) a.Alt) := f_a.Alt
 have nb_Main_Cells : a.Main.Cells.n ≤ 549755813888 := f_a.Main.Cells_n
 have nl_Main_Cells : a.Main.Cells.xs.length = a.Main.Cells.n := by have h_ := f_a.Main.Cells.len; simpa [markGrid, markScr, marks_len, mrks_len] using h_
 have nb_Alt_Cells : a.Alt.Cells.n ≤ 549755813888 := f_a.Alt.Cells_n
 have nl_Alt_Cells : a.Alt.Cells.xs.length = a.Alt.Cells.n := by have h_ := f_a.Alt.Cells.len; simpa [markGrid, markScr, marks_len, mrks_len] using h_
 have nb_Tabs : a.Tabs.n ≤ 549755813888 := f_a.Tabs_n
 have nl_Tabs : a.Tabs.xs.length = a.Tabs.n := by have h_ := f_a.Tabs.len; simpa [markGrid, markScr, marks_len, mrks_len] using h_
 have nb_Back : a.Back.n ≤ 549755813888 := f_a.Back_n
 have nl_Back : a.Back.xs.length = a.Back.n := by have h_ := f_a.Back.sl.len; simpa [markGrid, markScr, marks_len, mrks_len] using h_
 have fm_Main : okGridR 549755813888 w (markGrid k a.Main) := f_a.Main
 have fm_Alt : okGridR 549755813888 w (markGrid (endGrid k a.Main) a.Alt) := f_a.Alt
 have nb_Main_Cells : a.Main.Cells.n ≤ 549755813888 := f_a.Main.Cells_n
 have nl_Main_Cells : a.Main.Cells.xs.length = a.Main.Cells.n := by have h_ := f_a.Main.Cells.len; simpa [markGrid, markScr, marks_len, mrks_len] using h_
 have nb_Alt_Cells : a.Alt.Cells.n ≤ 549755813888 := f_a.Alt.Cells_n
 have nl_Alt_Cells : a.Alt.Cells.xs.length = a.Alt.Cells.n := by have h_ := f_a.Alt.Cells.len; simpa [markGrid, markScr, marks_len, mrks_len] using h_
 have nb_Tabs : a.Tabs.n ≤ 549755813888 := f_a.Tabs_n
 have nl_Tabs : a.Tabs.xs.length = a.Tabs.n := by have h_ := f_a.Tabs.len; simpa [markGrid, markScr, marks_len, mrks_len] using h_
 have nb_Back : a.Back.n ≤ 549755813888 := f_a.Back_n
 have nl_Back : a.Back.xs.length = a.Back.n := by have h_ := f_a.Back.sl.len; simpa [markGrid, markScr, marks_len, mrks_len] using h_
 have hq2 := h2
 simp only [endGrid, endScr] at hq2
 have hcn_Back := cnts_nonneg (c := cntERow) (fun x => by simp only [cntERow]; omega) a.Back.xs
 refine enter (vs := [.agg #[i64 a.W, i64 a.H, i64 a.Main.W, i64 a.Main.H, .slice a.Main.Cells.A a.Main.Cells.n a.Main.Cells.c, i64 a.Alt.W, i64 a.Alt.H, .slice a.Alt.Cells.A a.Alt.Cells.n a.Alt.Cells.c, .bool a.OnAlt, i64 a.X, i64 a.Y, .bool a.Wrap, i64 a.A.Fg, i64 a.A.Bg, .bool a.A.Bold, .bool a.A.Under, .bool a.A.Turn, i64 a.Top, i64 a.Bot, .bool a.NoWrap, .bool a.Hide, i64 a.SaveX, i64 a.SaveY, i64 a.SaveA.Fg, i64 a.SaveA.Bg, .bool a.SaveA.Bold, .bool a.SaveA.Under, .bool a.SaveA.Turn, .slice a.Tabs.A a.Tabs.n a.Tabs.c, i64 a.Limit, .slice a.Back.A a.Back.n a.Back.c], i64 k]) 30 Tryz.func35 rfl Tryz.ntmps35 rfl rfl ?_
 have hs1 := St.init w
 refine WC.sr ?_
 refine WL.bx hs1 rfl (fun b2 _ hs3 => ?_)
 refine WL.run tbk 1 hs3 [] rfl trivial ?_
 refine WL.nil ?_
 refine WC.sr ?_
 refine WL.run tbk 3 hs3 [0] rfl ⟨rfl, trivial⟩ ?_
 refine WL.call rfl rfl rfl (Run.call Tryz.call104 rfl rfl rfl) (c_laws_heldGrid _ _ _ (okGridR.st0 fm_Main hs3) ?_ ?_) ?_
 · first | (first | assumption | omega) | (simp only [endGrid, endScr]; omega)
 · first | (first | assumption | omega | (simp only [endGrid]; omega)) | (simp only [endGrid, endScr]; omega)
 rintro _ whs4 ⟨rfl, hs4⟩
 replace hs4 := hs3.call0 hs4
 refine ⟨_, rfl, ?_⟩
 refine WL.run tbk 1 hs4 [] rfl trivial ?_
 refine WL.nil ?_
 refine WC.seq (fun K5 hK5 => ?_)
 refine WC.rr tbk hs4 [] rfl trivial ?_
 refine WC.condF rfl (by first | (simp; omega) | (rw [decide_eq_false_iff_not]; simp only [endGrid, endScr]; omega)) ?_
 refine WC.skip ?_
 refine hK5 _ _ ?_
 refine WC.sr ?_
 refine WL.run tbk 3 hs4 [0] rfl ⟨rfl, trivial⟩ ?_
 refine WL.call rfl rfl rfl (Run.call Tryz.call104 rfl rfl rfl) (c_laws_heldGrid _ _ _ (okGridR.st0 fm_Alt hs4) ?_ ?_) ?_
 · first | (first | assumption | omega) | (simp only [endGrid, endScr]; omega)
 · first | (first | assumption | omega | (simp only [endGrid]; omega)) | (simp only [endGrid, endScr]; omega)
 rintro _ whs7 ⟨rfl, hs7⟩
 replace hs7 := hs4.call0 hs7
 refine ⟨_, rfl, ?_⟩
 refine WL.run tbk 1 hs7 [] rfl trivial ?_
 refine WL.nil ?_
 refine WC.seq (fun K8 hK8 => ?_)
 refine WC.rr tbk hs7 [] rfl trivial ?_
 refine WC.condF rfl (by first | (simp; omega) | (rw [decide_eq_false_iff_not]; simp only [endGrid, endScr]; omega)) ?_
 refine WC.skip ?_
 refine hK8 _ _ ?_
 refine WC.sr ?_
 refine WL.run tbk 3 hs7 [0] rfl ⟨rfl, trivial⟩ ?_
 refine WL.call rfl rfl rfl (Run.call Tryz.call105 rfl rfl rfl) (c_laws_heldIntS _ _ _ _ _ _ _ (SlF.st0 f_a.Tabs hs7) rfl ?_ ?_ ?_) ?_
 · first | (first | assumption | rfl | omega) | (simp only [endGrid, endScr]; omega)
 · first | (first | assumption | rfl | omega) | (simp only [endGrid, endScr]; omega)
 · first | (first | assumption | rfl | omega) | (simp only [endGrid, endScr]; omega)
 rintro _ whs10 ⟨rfl, hs10⟩
 replace hs10 := hs7.call0 hs10
 refine ⟨_, rfl, ?_⟩
 refine WL.run tbk 1 hs10 [] rfl trivial ?_
 refine WL.nil ?_
 refine WC.seq (fun K11 hK11 => ?_)
 refine WC.rr tbk hs10 [] rfl trivial ?_
 refine WC.condF rfl (by first | (simp; omega) | (rw [decide_eq_false_iff_not]; simp only [endGrid, endScr]; omega)) ?_
 refine WC.skip ?_
 refine hK11 _ _ ?_
 refine WC.sr ?_
 refine WL.run tbk 3 hs10 [0] rfl ⟨rfl, trivial⟩ ?_
 refine WL.call rfl rfl rfl (Run.call Tryz.call106 rfl rfl rfl) (c_laws_heldRowS _ _ _ _ _ _ (SlN.st0 okRowR.st0 f_a.Back hs10) ?_ ?_ ?_) ?_
 · first | (first | assumption | omega) | (simp only [endGrid, endScr]; omega)
 · first | (first | assumption | omega) | (simp only [endGrid, endScr]; omega)
 · first | (first | assumption | omega) | (simp only [endGrid, endScr]; omega)
 rintro _ whs13 ⟨rfl, hs13⟩
 replace hs13 := hs10.call0 hs13
 refine ⟨_, rfl, ?_⟩
 refine WL.run tbk 1 hs13 [] rfl trivial ?_
 refine WL.nil ?_
 refine WC.seq (fun K14 hK14 => ?_)
 refine WC.rr tbk hs13 [] rfl trivial ?_
 refine WC.condF rfl (by first | (simp; omega) | (rw [decide_eq_false_iff_not]; simp only [endGrid, endScr]; omega)) ?_
 refine WC.skip ?_
 refine hK14 _ _ ?_
 refine WC.rr tbk hs13 [] rfl trivial ?_
 refine WC.ret ?_
 refine retV1 rfl (resV.tmp rfl) ?_
 refine ⟨congrArg Ending.returned ?_, hs13.nil⟩
 first | rfl | (simp [endGrid, endScr, *]; done) | (simp [endGrid, endScr, *]; omega)
end Go.Proofs.YtlmcekfdlgkffaaGreat
