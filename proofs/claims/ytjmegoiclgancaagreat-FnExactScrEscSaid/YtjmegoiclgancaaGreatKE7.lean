/-
  The statement: for every input the law returns true. No condition. (And what it stands on, the last part.)
-/
import Derived.Test.YtjmegoiclgancaaGreatKE6
namespace Go.Proofs.YtjmegoiclgancaaGreat
open Go Go.RowKit
set_option linter.unusedVariables false
set_option linter.unusedSimpArgs false
set_option maxHeartbeats 4000000 in
theorem c_laws_toScr (a : ScrR) (w : World) (f_a : okScrR 549755813888 w a) :
    Calls Tryz.prog 21 #[.agg #[i64 a.W, i64 a.H, i64 a.Main.W, i64 a.Main.H, .slice a.Main.Cells.A a.Main.Cells.n a.Main.Cells.c, i64 a.Alt.W, i64 a.Alt.H, .slice a.Alt.Cells.A a.Alt.Cells.n a.Alt.Cells.c, .bool a.OnAlt, i64 a.X, i64 a.Y, .bool a.Wrap, i64 a.A.Fg, i64 a.A.Bg, .bool a.A.Bold, .bool a.A.Under, .bool a.A.Turn, i64 a.Top, i64 a.Bot, .bool a.NoWrap, .bool a.Hide, i64 a.SaveX, i64 a.SaveY, i64 a.SaveA.Fg, i64 a.SaveA.Bg, .bool a.SaveA.Bold, .bool a.SaveA.Under, .bool a.SaveA.Turn, .slice a.Tabs.A a.Tabs.n a.Tabs.c, i64 a.Limit, .slice a.Back.A a.Back.n a.Back.c]] w fun e w' => ∃ r L1, e = .returned (.agg #[i64 r.W, i64 r.H, i64 r.Main.W, i64 r.Main.H, .slice r.Main.Cells.A r.Main.Cells.n r.Main.Cells.c, i64 r.Alt.W, i64 r.Alt.H, .slice r.Alt.Cells.A r.Alt.Cells.n r.Alt.Cells.c, .bool r.OnAlt, i64 r.X, i64 r.Y, .bool r.Wrap, i64 r.A.Fg, i64 r.A.Bg, .bool r.A.Bold, .bool r.A.Under, .bool r.A.Turn, i64 r.Top, i64 r.Bot, .bool r.NoWrap, .bool r.Hide, i64 r.SaveX, i64 r.SaveY, i64 r.SaveA.Fg, i64 r.SaveA.Bg, .bool r.SaveA.Bold, .bool r.SaveA.Under, .bool r.SaveA.Turn, .slice r.Tabs.A r.Tabs.n r.Tabs.c, i64 r.Limit, .slice r.Back.A r.Back.n r.Back.c]) ∧ St w [] L1 w' ∧ ownScrR r L1 ∧ r.dat = a.dat := by
 have nb_a_Main_Cells := f_a.Main.Cells_n
 have nl_a_Main_Cells := f_a.Main.Cells.len
 have nb_a_Alt_Cells := f_a.Alt.Cells_n
 have nl_a_Alt_Cells := f_a.Alt.Cells.len
 have nb_a_Tabs := f_a.Tabs_n
 have nl_a_Tabs := f_a.Tabs.len
 have nb_a_Back := f_a.Back_n
 have nl_a_Back := f_a.Back.sl.len
 refine enter (vs := [.agg #[i64 a.W, i64 a.H, i64 a.Main.W, i64 a.Main.H, .slice a.Main.Cells.A a.Main.Cells.n a.Main.Cells.c, i64 a.Alt.W, i64 a.Alt.H, .slice a.Alt.Cells.A a.Alt.Cells.n a.Alt.Cells.c, .bool a.OnAlt, i64 a.X, i64 a.Y, .bool a.Wrap, i64 a.A.Fg, i64 a.A.Bg, .bool a.A.Bold, .bool a.A.Under, .bool a.A.Turn, i64 a.Top, i64 a.Bot, .bool a.NoWrap, .bool a.Hide, i64 a.SaveX, i64 a.SaveY, i64 a.SaveA.Fg, i64 a.SaveA.Bg, .bool a.SaveA.Bold, .bool a.SaveA.Under, .bool a.SaveA.Turn, .slice a.Tabs.A a.Tabs.n a.Tabs.c, i64 a.Limit, .slice a.Back.A a.Back.n a.Back.c]]) 68 Tryz.func21 rfl Tryz.ntmps21 rfl rfl ?_
 have hs1 := St.init w
 refine WC.sr ?_
 refine WL.bx hs1 rfl (fun b2 _ hs3 => ?_)
 refine WL.al hs3 Tryz.zeroValue33 rfl rfl (fun b4 _ hs5 => ?_)
 refine WL.nil ?_
 refine WC.sr ?_
 refine WL.al hs5 Tryz.zeroValue33 rfl rfl (fun b6 _ hs7 => ?_)
 refine WL.nil ?_
 refine WC.sr ?_
 refine WL.run tbk 3 hs7 [2] rfl ⟨rfl, trivial⟩ ?_
 refine WL.st tbk hs7 0 rfl rfl (fun _ hs8 => ?_)
 refine WL.nil ?_
 refine WC.sr ?_
 refine WL.run tbk 3 hs8 [2] rfl ⟨rfl, trivial⟩ ?_
 refine WL.st tbk hs8 0 rfl rfl (fun _ hs9 => ?_)
 refine WL.nil ?_
 refine WC.sr ?_
 refine WL.run tbk 2 hs9 [2] rfl ⟨rfl, trivial⟩ ?_
 refine WL.call rfl rfl rfl (Run.call Tryz.call71 rfl rfl rfl) (c_laws_toGrid a.Main _ (okGridR.st0 f_a.Main hs9)) ?_
 rintro _ whs10 ⟨r11, L1_12, rfl, hs10, ho13, hd14⟩
 replace hs10 := hs9.callF hs10
 refine ⟨_, rfl, ?_⟩
 replace hs10 := St.back [_, _, _] hs10
 refine WL.run tbk 1 hs10 [] rfl trivial ?_
 refine WL.st tbk hs10 0 rfl rfl (fun _ hs15 => ?_)
 refine WL.nil ?_
 refine WC.sr ?_
 refine WL.run tbk 2 hs15 [2] rfl ⟨rfl, trivial⟩ ?_
 refine WL.call rfl rfl rfl (Run.call Tryz.call71 rfl rfl rfl) (c_laws_toGrid a.Alt _ (okGridR.st0 f_a.Alt hs15)) ?_
 rintro _ whs16 ⟨r17, L1_18, rfl, hs16, ho19, hd20⟩
 replace hs16 := hs15.callF hs16
 refine ⟨_, rfl, ?_⟩
 replace hs16 := St.back [_, _, _] hs16
 refine WL.run tbk 1 hs16 [] rfl trivial ?_
 refine WL.st tbk hs16 0 rfl rfl (fun _ hs21 => ?_)
 refine WL.nil ?_
 refine WC.sr ?_
 refine WL.run tbk 3 hs21 [2] rfl ⟨rfl, trivial⟩ ?_
 refine WL.st tbk hs21 0 rfl rfl (fun _ hs22 => ?_)
 refine WL.nil ?_
 refine WC.sr ?_
 refine WL.run tbk 3 hs22 [2] rfl ⟨rfl, trivial⟩ ?_
 refine WL.st tbk hs22 0 rfl rfl (fun _ hs23 => ?_)
 refine WL.nil ?_
 refine WC.sr ?_
 refine WL.run tbk 3 hs23 [2] rfl ⟨rfl, trivial⟩ ?_
 refine WL.st tbk hs23 0 rfl rfl (fun _ hs24 => ?_)
 refine WL.nil ?_
 refine WC.sr ?_
 refine WL.run tbk 3 hs24 [2] rfl ⟨rfl, trivial⟩ ?_
 refine WL.st tbk hs24 0 rfl rfl (fun _ hs25 => ?_)
 refine WL.nil ?_
 refine WC.sr ?_
 refine WL.run tbk 2 hs25 [2] rfl ⟨rfl, trivial⟩ ?_
 refine WL.call rfl rfl rfl (Run.call Tryz.call72 rfl rfl rfl) (c_laws_toAttr _ _ _ _ _ _) ?_
 rintro _ whs26 ⟨rfl, hs26⟩
 replace hs26 := hs25.call0 hs26
 refine ⟨_, rfl, ?_⟩
 refine WL.run tbk 1 hs26 [] rfl trivial ?_
 refine WL.st tbk hs26 0 rfl rfl (fun _ hs27 => ?_)
 refine WL.nil ?_
 refine WC.sr ?_
 refine WL.run tbk 3 hs27 [2] rfl ⟨rfl, trivial⟩ ?_
 refine WL.st tbk hs27 0 rfl rfl (fun _ hs28 => ?_)
 refine WL.nil ?_
 refine WC.sr ?_
 refine WL.run tbk 3 hs28 [2] rfl ⟨rfl, trivial⟩ ?_
 refine WL.st tbk hs28 0 rfl rfl (fun _ hs29 => ?_)
 refine WL.nil ?_
 refine WC.sr ?_
 refine WL.run tbk 3 hs29 [2] rfl ⟨rfl, trivial⟩ ?_
 refine WL.st tbk hs29 0 rfl rfl (fun _ hs30 => ?_)
 refine WL.nil ?_
 refine WC.sr ?_
 refine WL.run tbk 3 hs30 [2] rfl ⟨rfl, trivial⟩ ?_
 refine WL.st tbk hs30 0 rfl rfl (fun _ hs31 => ?_)
 refine WL.nil ?_
 refine WC.sr ?_
 refine WL.run tbk 3 hs31 [2] rfl ⟨rfl, trivial⟩ ?_
 refine WL.st tbk hs31 0 rfl rfl (fun _ hs32 => ?_)
 refine WL.nil ?_
 refine WC.sr ?_
 refine WL.run tbk 3 hs32 [2] rfl ⟨rfl, trivial⟩ ?_
 refine WL.st tbk hs32 0 rfl rfl (fun _ hs33 => ?_)
 refine WL.nil ?_
 refine WC.sr ?_
 refine WL.run tbk 2 hs33 [2] rfl ⟨rfl, trivial⟩ ?_
 refine WL.call rfl rfl rfl (Run.call Tryz.call72 rfl rfl rfl) (c_laws_toAttr _ _ _ _ _ _) ?_
 rintro _ whs34 ⟨rfl, hs34⟩
 replace hs34 := hs33.call0 hs34
 refine ⟨_, rfl, ?_⟩
 refine WL.run tbk 1 hs34 [] rfl trivial ?_
 refine WL.st tbk hs34 0 rfl rfl (fun _ hs35 => ?_)
 refine WL.nil ?_
 refine WC.sr ?_
 refine WL.run tbk 2 hs35 [2] rfl ⟨rfl, trivial⟩ ?_
 refine WL.call rfl rfl rfl (Run.call Tryz.call31 rfl rfl rfl) (c_laws_toIntS _ _ _ _ _ (SlF.st0 f_a.Tabs hs35) ?_) ?_
 · first | assumption | rfl | omega
 rintro _ whs36 ⟨A37, c38, L1_39, rfl, hs36, ho40⟩
 replace hs36 := hs35.callF hs36
 refine ⟨_, rfl, ?_⟩
 replace hs36 := St.back [_, _, _] hs36
 refine WL.run tbk 1 hs36 [] rfl trivial ?_
 refine WL.st tbk hs36 0 rfl rfl (fun _ hs41 => ?_)
 refine WL.nil ?_
 refine WC.sr ?_
 refine WL.run tbk 3 hs41 [2] rfl ⟨rfl, trivial⟩ ?_
 refine WL.st tbk hs41 0 rfl rfl (fun _ hs42 => ?_)
 refine WL.nil ?_
 refine WC.sr ?_
 refine WL.run tbk 2 hs42 [2] rfl ⟨rfl, trivial⟩ ?_
 refine WL.call rfl rfl rfl (Run.call Tryz.call73 rfl rfl rfl) (c_laws_toRowS _ _ _ _ _ (SlN.st0 okRowR.st0 f_a.Back hs42) ?_) ?_
 · first | assumption | rfl | omega
 rintro _ whs43 ⟨A44, c45, xs46, L1_47, rfl, hs43, ho48, hd49⟩
 replace hs43 := hs42.callF hs43
 refine ⟨_, rfl, ?_⟩
 replace hs43 := St.back [_, _, _] hs43
 refine WL.run tbk 1 hs43 [] rfl trivial ?_
 refine WL.st tbk hs43 0 rfl rfl (fun _ hs50 => ?_)
 refine WL.nil ?_
 refine WC.sr ?_
 refine WL.run tbk 1 hs50 [0] rfl ⟨rfl, trivial⟩ ?_
 refine WL.st tbk hs50 1 rfl rfl (fun _ hs51 => ?_)
 refine WL.nil ?_
 refine WC.ret ?_
 refine retV1 rfl (resV.cellA tbk hs51 1 rfl rfl rfl rfl) ?_
 obtain ⟨L53, hs52, ho54⟩ := ownScrR.fold ⟨0, 0, ⟨0, 0, ⟨_, _, _, _⟩⟩, ⟨0, 0, ⟨_, _, _, _⟩⟩, false, 0, 0, false, ⟨0, 0, false, false, false⟩, 0, 0, false, false, 0, 0, ⟨0, 0, false, false, false⟩, ⟨_, _, _, _⟩, 0, ⟨_, _, _, _⟩⟩ (St.perm (St.perm (St.perm (St.perm hs51 (L' := L1_47 ++ _) (perm_front (A := [_, _, _]) (List.Perm.refl _))) (L' := L1_39 ++ _) (perm_front (A := L1_47) (perm_front (A := [_, _, _]) (List.Perm.refl _)))) (L' := L1_18 ++ _) (perm_front (A := L1_39) (perm_front (A := L1_47) (perm_front (A := [_, _, _]) (List.Perm.refl _))))) (L' := L1_12 ++ _) (perm_front (A := L1_18) (perm_front (A := L1_39) (perm_front (A := L1_47) (perm_front (A := [_, _, _]) (List.Perm.refl _)))))) ho13 ho19 ho40 ho48
 have hs55 := (St.perm (St.perm (St.perm hs52 (L' := [_] ++ _) (perm_front (A := L53) (perm_front (A := [_, _]) (List.Perm.refl _)))) (L' := [_] ++ _) (perm_front (A := [_]) (perm_front (A := L53) (perm_front (A := [_]) (List.Perm.refl _))))) (L' := [_] ++ _) (perm_front (A := [_, _]) (perm_front (A := L53) (List.Perm.refl _))))
 refine ⟨⟨a.W, a.H, ⟨r11.W, r11.H, SlD.of ho13⟩, ⟨r17.W, r17.H, SlD.of ho19⟩, a.OnAlt, a.X, a.Y, a.Wrap, ⟨_, _, _, _, _⟩, a.Top, a.Bot, a.NoWrap, a.Hide, a.SaveX, a.SaveY, ⟨_, _, _, _, _⟩, SlD.of ho40, a.Limit, SlD.ofN ho48⟩, _, rfl, (St.keep1 (St.perm hs55 (L' := L53 ++ _) (perm_front (A := [_, _, _]) (List.Perm.refl _)))), ?_, ?_⟩
 · exact (by exact ho54)
 · exact ScrD.ext' rfl rfl hd14 hd20 rfl rfl rfl rfl rfl rfl rfl rfl rfl rfl rfl rfl rfl rfl hd49
set_option maxHeartbeats 4000000 in
theorem c_laws_eqScr (a : ScrR) (b : ScrR) (w : World) (f_a : okScrR 549755813888 w a) (f_b : okScrR 549755813888 w b) (hab : a.dat = b.dat) :
    Calls Tryz.prog 23 #[.agg #[i64 a.W, i64 a.H, i64 a.Main.W, i64 a.Main.H, .slice a.Main.Cells.A a.Main.Cells.n a.Main.Cells.c, i64 a.Alt.W, i64 a.Alt.H, .slice a.Alt.Cells.A a.Alt.Cells.n a.Alt.Cells.c, .bool a.OnAlt, i64 a.X, i64 a.Y, .bool a.Wrap, i64 a.A.Fg, i64 a.A.Bg, .bool a.A.Bold, .bool a.A.Under, .bool a.A.Turn, i64 a.Top, i64 a.Bot, .bool a.NoWrap, .bool a.Hide, i64 a.SaveX, i64 a.SaveY, i64 a.SaveA.Fg, i64 a.SaveA.Bg, .bool a.SaveA.Bold, .bool a.SaveA.Under, .bool a.SaveA.Turn, .slice a.Tabs.A a.Tabs.n a.Tabs.c, i64 a.Limit, .slice a.Back.A a.Back.n a.Back.c], .agg #[i64 b.W, i64 b.H, i64 b.Main.W, i64 b.Main.H, .slice b.Main.Cells.A b.Main.Cells.n b.Main.Cells.c, i64 b.Alt.W, i64 b.Alt.H, .slice b.Alt.Cells.A b.Alt.Cells.n b.Alt.Cells.c, .bool b.OnAlt, i64 b.X, i64 b.Y, .bool b.Wrap, i64 b.A.Fg, i64 b.A.Bg, .bool b.A.Bold, .bool b.A.Under, .bool b.A.Turn, i64 b.Top, i64 b.Bot, .bool b.NoWrap, .bool b.Hide, i64 b.SaveX, i64 b.SaveY, i64 b.SaveA.Fg, i64 b.SaveA.Bg, .bool b.SaveA.Bold, .bool b.SaveA.Under, .bool b.SaveA.Turn, .slice b.Tabs.A b.Tabs.n b.Tabs.c, i64 b.Limit, .slice b.Back.A b.Back.n b.Back.c]] w fun e w' => e = .returned (.bool true) ∧ St w [] [] w' := by
 have nb_a_Main_Cells := f_a.Main.Cells_n
 have nl_a_Main_Cells := f_a.Main.Cells.len
 have nb_a_Alt_Cells := f_a.Alt.Cells_n
 have nl_a_Alt_Cells := f_a.Alt.Cells.len
 have nb_a_Tabs := f_a.Tabs_n
 have nl_a_Tabs := f_a.Tabs.len
 have nb_a_Back := f_a.Back_n
 have nl_a_Back := f_a.Back.sl.len
 have nb_b_Main_Cells := f_b.Main.Cells_n
 have nl_b_Main_Cells := f_b.Main.Cells.len
 have nb_b_Alt_Cells := f_b.Alt.Cells_n
 have nl_b_Alt_Cells := f_b.Alt.Cells.len
 have nb_b_Tabs := f_b.Tabs_n
 have nl_b_Tabs := f_b.Tabs.len
 have nb_b_Back := f_b.Back_n
 have nl_b_Back := f_b.Back.sl.len
 have e_W : a.W = b.W := congrArg (fun d : ScrD => d.W) hab
 have e_H : a.H = b.H := congrArg (fun d : ScrD => d.H) hab
 have e_Main : a.Main.dat = b.Main.dat := congrArg (fun d : ScrD => d.Main) hab
 have e_Main_W : a.Main.W = b.Main.W := congrArg (fun d : ScrD => d.Main.W) hab
 have e_Main_H : a.Main.H = b.Main.H := congrArg (fun d : ScrD => d.Main.H) hab
 have e_Main_Cells : a.Main.Cells.xs = b.Main.Cells.xs := congrArg (fun d : ScrD => d.Main.Cells) hab
 have e_Alt : a.Alt.dat = b.Alt.dat := congrArg (fun d : ScrD => d.Alt) hab
 have e_Alt_W : a.Alt.W = b.Alt.W := congrArg (fun d : ScrD => d.Alt.W) hab
 have e_Alt_H : a.Alt.H = b.Alt.H := congrArg (fun d : ScrD => d.Alt.H) hab
 have e_Alt_Cells : a.Alt.Cells.xs = b.Alt.Cells.xs := congrArg (fun d : ScrD => d.Alt.Cells) hab
 have e_OnAlt : a.OnAlt = b.OnAlt := congrArg (fun d : ScrD => d.OnAlt) hab
 have e_X : a.X = b.X := congrArg (fun d : ScrD => d.X) hab
 have e_Y : a.Y = b.Y := congrArg (fun d : ScrD => d.Y) hab
 have e_Wrap : a.Wrap = b.Wrap := congrArg (fun d : ScrD => d.Wrap) hab
 have e_A : a.A = b.A := congrArg (fun d : ScrD => d.A) hab
 have e_A_Fg : a.A.Fg = b.A.Fg := congrArg (fun d : ScrD => d.A.Fg) hab
 have e_A_Bg : a.A.Bg = b.A.Bg := congrArg (fun d : ScrD => d.A.Bg) hab
 have e_A_Bold : a.A.Bold = b.A.Bold := congrArg (fun d : ScrD => d.A.Bold) hab
 have e_A_Under : a.A.Under = b.A.Under := congrArg (fun d : ScrD => d.A.Under) hab
 have e_A_Turn : a.A.Turn = b.A.Turn := congrArg (fun d : ScrD => d.A.Turn) hab
 have e_Top : a.Top = b.Top := congrArg (fun d : ScrD => d.Top) hab
 have e_Bot : a.Bot = b.Bot := congrArg (fun d : ScrD => d.Bot) hab
 have e_NoWrap : a.NoWrap = b.NoWrap := congrArg (fun d : ScrD => d.NoWrap) hab
 have e_Hide : a.Hide = b.Hide := congrArg (fun d : ScrD => d.Hide) hab
 have e_SaveX : a.SaveX = b.SaveX := congrArg (fun d : ScrD => d.SaveX) hab
 have e_SaveY : a.SaveY = b.SaveY := congrArg (fun d : ScrD => d.SaveY) hab
 have e_SaveA : a.SaveA = b.SaveA := congrArg (fun d : ScrD => d.SaveA) hab
 have e_SaveA_Fg : a.SaveA.Fg = b.SaveA.Fg := congrArg (fun d : ScrD => d.SaveA.Fg) hab
 have e_SaveA_Bg : a.SaveA.Bg = b.SaveA.Bg := congrArg (fun d : ScrD => d.SaveA.Bg) hab
 have e_SaveA_Bold : a.SaveA.Bold = b.SaveA.Bold := congrArg (fun d : ScrD => d.SaveA.Bold) hab
 have e_SaveA_Under : a.SaveA.Under = b.SaveA.Under := congrArg (fun d : ScrD => d.SaveA.Under) hab
 have e_SaveA_Turn : a.SaveA.Turn = b.SaveA.Turn := congrArg (fun d : ScrD => d.SaveA.Turn) hab
 have e_Tabs : a.Tabs.xs = b.Tabs.xs := congrArg (fun d : ScrD => d.Tabs) hab
 have e_Limit : a.Limit = b.Limit := congrArg (fun d : ScrD => d.Limit) hab
 have e_Back : a.Back.xs.map RowR.dat = b.Back.xs.map RowR.dat := congrArg (fun d : ScrD => d.Back) hab
 refine enter (vs := [.agg #[i64 a.W, i64 a.H, i64 a.Main.W, i64 a.Main.H, .slice a.Main.Cells.A a.Main.Cells.n a.Main.Cells.c, i64 a.Alt.W, i64 a.Alt.H, .slice a.Alt.Cells.A a.Alt.Cells.n a.Alt.Cells.c, .bool a.OnAlt, i64 a.X, i64 a.Y, .bool a.Wrap, i64 a.A.Fg, i64 a.A.Bg, .bool a.A.Bold, .bool a.A.Under, .bool a.A.Turn, i64 a.Top, i64 a.Bot, .bool a.NoWrap, .bool a.Hide, i64 a.SaveX, i64 a.SaveY, i64 a.SaveA.Fg, i64 a.SaveA.Bg, .bool a.SaveA.Bold, .bool a.SaveA.Under, .bool a.SaveA.Turn, .slice a.Tabs.A a.Tabs.n a.Tabs.c, i64 a.Limit, .slice a.Back.A a.Back.n a.Back.c], .agg #[i64 b.W, i64 b.H, i64 b.Main.W, i64 b.Main.H, .slice b.Main.Cells.A b.Main.Cells.n b.Main.Cells.c, i64 b.Alt.W, i64 b.Alt.H, .slice b.Alt.Cells.A b.Alt.Cells.n b.Alt.Cells.c, .bool b.OnAlt, i64 b.X, i64 b.Y, .bool b.Wrap, i64 b.A.Fg, i64 b.A.Bg, .bool b.A.Bold, .bool b.A.Under, .bool b.A.Turn, i64 b.Top, i64 b.Bot, .bool b.NoWrap, .bool b.Hide, i64 b.SaveX, i64 b.SaveY, i64 b.SaveA.Fg, i64 b.SaveA.Bg, .bool b.SaveA.Bold, .bool b.SaveA.Under, .bool b.SaveA.Turn, .slice b.Tabs.A b.Tabs.n b.Tabs.c, i64 b.Limit, .slice b.Back.A b.Back.n b.Back.c]]) 106 Tryz.func23 rfl Tryz.ntmps23 rfl rfl ?_
 have hs1 := St.init w
 refine WC.sr ?_
 refine WL.bx hs1 rfl (fun b2 _ hs3 => ?_)
 refine WL.bx hs3 rfl (fun b4 _ hs5 => ?_)
 refine WL.run tbk 1 hs5 [] rfl trivial ?_
 refine WL.nil ?_
 refine WC.seq (fun K6 hK6 => ?_)
 refine WC.rr tbk hs5 [1, 0] rfl ⟨rfl, rfl, trivial⟩ ?_
 refine WC.condF rfl (by simp [e_W, e_H, e_Main_W, e_Main_H, e_Alt_W, e_Alt_H, e_OnAlt, e_X, e_Y, e_Wrap, e_A_Fg, e_A_Bg, e_A_Bold, e_A_Under, e_A_Turn, e_Top, e_Bot, e_NoWrap, e_Hide, e_SaveX, e_SaveY, e_SaveA_Fg, e_SaveA_Bg, e_SaveA_Bold, e_SaveA_Under, e_SaveA_Turn, e_Limit]) ?_
 refine WC.skip ?_
 refine hK6 _ _ ?_
 refine WC.seq (fun K8 hK8 => ?_)
 refine WC.rr tbk hs5 [1, 0] rfl ⟨rfl, rfl, trivial⟩ ?_
 refine WC.condF rfl (by simp [e_W, e_H, e_Main_W, e_Main_H, e_Alt_W, e_Alt_H, e_OnAlt, e_X, e_Y, e_Wrap, e_A_Fg, e_A_Bg, e_A_Bold, e_A_Under, e_A_Turn, e_Top, e_Bot, e_NoWrap, e_Hide, e_SaveX, e_SaveY, e_SaveA_Fg, e_SaveA_Bg, e_SaveA_Bold, e_SaveA_Under, e_SaveA_Turn, e_Limit]) ?_
 refine WC.skip ?_
 refine hK8 _ _ ?_
 refine WC.seq (fun K10 hK10 => ?_)
 refine WC.sr ?_
 refine WL.run tbk 4 hs5 [1, 0] rfl ⟨rfl, rfl, trivial⟩ ?_
 refine WL.call rfl rfl rfl (Run.call Tryz.call77 rfl rfl rfl) (c_laws_eqGrid a.Main b.Main _ (okGridR.st0 f_a.Main hs5) (okGridR.st0 f_b.Main hs5) ?_) ?_
 · first | assumption | rfl | omega
 rintro _ whs11 ⟨rfl, hs11⟩
 replace hs11 := hs5.call0 hs11
 refine ⟨_, rfl, ?_⟩
 refine WL.run tbk 1 hs11 [] rfl trivial ?_
 refine WL.nil ?_
 refine WC.condF rfl (by simp [e_W, e_H, e_Main_W, e_Main_H, e_Alt_W, e_Alt_H, e_OnAlt, e_X, e_Y, e_Wrap, e_A_Fg, e_A_Bg, e_A_Bold, e_A_Under, e_A_Turn, e_Top, e_Bot, e_NoWrap, e_Hide, e_SaveX, e_SaveY, e_SaveA_Fg, e_SaveA_Bg, e_SaveA_Bold, e_SaveA_Under, e_SaveA_Turn, e_Limit]) ?_
 refine WC.skip ?_
 refine hK10 _ _ ?_
 refine WC.seq (fun K13 hK13 => ?_)
 refine WC.sr ?_
 refine WL.run tbk 4 hs11 [1, 0] rfl ⟨rfl, rfl, trivial⟩ ?_
 refine WL.call rfl rfl rfl (Run.call Tryz.call77 rfl rfl rfl) (c_laws_eqGrid a.Alt b.Alt _ (okGridR.st0 f_a.Alt hs11) (okGridR.st0 f_b.Alt hs11) ?_) ?_
 · first | assumption | rfl | omega
 rintro _ whs14 ⟨rfl, hs14⟩
 replace hs14 := hs11.call0 hs14
 refine ⟨_, rfl, ?_⟩
 refine WL.run tbk 1 hs14 [] rfl trivial ?_
 refine WL.nil ?_
 refine WC.condF rfl (by simp [e_W, e_H, e_Main_W, e_Main_H, e_Alt_W, e_Alt_H, e_OnAlt, e_X, e_Y, e_Wrap, e_A_Fg, e_A_Bg, e_A_Bold, e_A_Under, e_A_Turn, e_Top, e_Bot, e_NoWrap, e_Hide, e_SaveX, e_SaveY, e_SaveA_Fg, e_SaveA_Bg, e_SaveA_Bold, e_SaveA_Under, e_SaveA_Turn, e_Limit]) ?_
 refine WC.skip ?_
 refine hK13 _ _ ?_
 refine WC.seq (fun K16 hK16 => ?_)
 refine WC.rr tbk hs14 [1, 0] rfl ⟨rfl, rfl, trivial⟩ ?_
 refine WC.condF rfl (by simp [e_W, e_H, e_Main_W, e_Main_H, e_Alt_W, e_Alt_H, e_OnAlt, e_X, e_Y, e_Wrap, e_A_Fg, e_A_Bg, e_A_Bold, e_A_Under, e_A_Turn, e_Top, e_Bot, e_NoWrap, e_Hide, e_SaveX, e_SaveY, e_SaveA_Fg, e_SaveA_Bg, e_SaveA_Bold, e_SaveA_Under, e_SaveA_Turn, e_Limit]) ?_
 refine WC.skip ?_
 refine hK16 _ _ ?_
 refine WC.seq (fun K18 hK18 => ?_)
 refine WC.rr tbk hs14 [1, 0] rfl ⟨rfl, rfl, trivial⟩ ?_
 refine WC.condF rfl (by simp [e_W, e_H, e_Main_W, e_Main_H, e_Alt_W, e_Alt_H, e_OnAlt, e_X, e_Y, e_Wrap, e_A_Fg, e_A_Bg, e_A_Bold, e_A_Under, e_A_Turn, e_Top, e_Bot, e_NoWrap, e_Hide, e_SaveX, e_SaveY, e_SaveA_Fg, e_SaveA_Bg, e_SaveA_Bold, e_SaveA_Under, e_SaveA_Turn, e_Limit]) ?_
 refine WC.skip ?_
 refine hK18 _ _ ?_
 refine WC.seq (fun K20 hK20 => ?_)
 refine WC.rr tbk hs14 [1, 0] rfl ⟨rfl, rfl, trivial⟩ ?_
 refine WC.condF rfl (by simp [e_W, e_H, e_Main_W, e_Main_H, e_Alt_W, e_Alt_H, e_OnAlt, e_X, e_Y, e_Wrap, e_A_Fg, e_A_Bg, e_A_Bold, e_A_Under, e_A_Turn, e_Top, e_Bot, e_NoWrap, e_Hide, e_SaveX, e_SaveY, e_SaveA_Fg, e_SaveA_Bg, e_SaveA_Bold, e_SaveA_Under, e_SaveA_Turn, e_Limit]) ?_
 refine WC.skip ?_
 refine hK20 _ _ ?_
 refine WC.seq (fun K22 hK22 => ?_)
 refine WC.rr tbk hs14 [1, 0] rfl ⟨rfl, rfl, trivial⟩ ?_
 refine WC.condF rfl (by simp [e_W, e_H, e_Main_W, e_Main_H, e_Alt_W, e_Alt_H, e_OnAlt, e_X, e_Y, e_Wrap, e_A_Fg, e_A_Bg, e_A_Bold, e_A_Under, e_A_Turn, e_Top, e_Bot, e_NoWrap, e_Hide, e_SaveX, e_SaveY, e_SaveA_Fg, e_SaveA_Bg, e_SaveA_Bold, e_SaveA_Under, e_SaveA_Turn, e_Limit]) ?_
 refine WC.skip ?_
 refine hK22 _ _ ?_
 refine WC.seq (fun K24 hK24 => ?_)
 refine WC.sr ?_
 refine WL.run tbk 4 hs14 [1, 0] rfl ⟨rfl, rfl, trivial⟩ ?_
 refine WL.call rfl rfl rfl (Run.call Tryz.call78 rfl rfl rfl) (c_laws_eqAttr _ _ _ _ _ _ _ _ _ _ _ ?_) ?_
 · first | assumption | rfl | omega
 rintro _ whs25 ⟨rfl, hs25⟩
 replace hs25 := hs14.call0 hs25
 refine ⟨_, rfl, ?_⟩
 refine WL.run tbk 1 hs25 [] rfl trivial ?_
 refine WL.nil ?_
 refine WC.condF rfl (by simp [e_W, e_H, e_Main_W, e_Main_H, e_Alt_W, e_Alt_H, e_OnAlt, e_X, e_Y, e_Wrap, e_A_Fg, e_A_Bg, e_A_Bold, e_A_Under, e_A_Turn, e_Top, e_Bot, e_NoWrap, e_Hide, e_SaveX, e_SaveY, e_SaveA_Fg, e_SaveA_Bg, e_SaveA_Bold, e_SaveA_Under, e_SaveA_Turn, e_Limit]) ?_
 refine WC.skip ?_
 refine hK24 _ _ ?_
 refine WC.seq (fun K27 hK27 => ?_)
 refine WC.rr tbk hs25 [1, 0] rfl ⟨rfl, rfl, trivial⟩ ?_
 refine WC.condF rfl (by simp [e_W, e_H, e_Main_W, e_Main_H, e_Alt_W, e_Alt_H, e_OnAlt, e_X, e_Y, e_Wrap, e_A_Fg, e_A_Bg, e_A_Bold, e_A_Under, e_A_Turn, e_Top, e_Bot, e_NoWrap, e_Hide, e_SaveX, e_SaveY, e_SaveA_Fg, e_SaveA_Bg, e_SaveA_Bold, e_SaveA_Under, e_SaveA_Turn, e_Limit]) ?_
 refine WC.skip ?_
 refine hK27 _ _ ?_
 refine WC.seq (fun K29 hK29 => ?_)
 refine WC.rr tbk hs25 [1, 0] rfl ⟨rfl, rfl, trivial⟩ ?_
 refine WC.condF rfl (by simp [e_W, e_H, e_Main_W, e_Main_H, e_Alt_W, e_Alt_H, e_OnAlt, e_X, e_Y, e_Wrap, e_A_Fg, e_A_Bg, e_A_Bold, e_A_Under, e_A_Turn, e_Top, e_Bot, e_NoWrap, e_Hide, e_SaveX, e_SaveY, e_SaveA_Fg, e_SaveA_Bg, e_SaveA_Bold, e_SaveA_Under, e_SaveA_Turn, e_Limit]) ?_
 refine WC.skip ?_
 refine hK29 _ _ ?_
 refine WC.seq (fun K31 hK31 => ?_)
 refine WC.rr tbk hs25 [1, 0] rfl ⟨rfl, rfl, trivial⟩ ?_
 refine WC.condF rfl (by simp [e_W, e_H, e_Main_W, e_Main_H, e_Alt_W, e_Alt_H, e_OnAlt, e_X, e_Y, e_Wrap, e_A_Fg, e_A_Bg, e_A_Bold, e_A_Under, e_A_Turn, e_Top, e_Bot, e_NoWrap, e_Hide, e_SaveX, e_SaveY, e_SaveA_Fg, e_SaveA_Bg, e_SaveA_Bold, e_SaveA_Under, e_SaveA_Turn, e_Limit]) ?_
 refine WC.skip ?_
 refine hK31 _ _ ?_
 refine WC.seq (fun K33 hK33 => ?_)
 refine WC.rr tbk hs25 [1, 0] rfl ⟨rfl, rfl, trivial⟩ ?_
 refine WC.condF rfl (by simp [e_W, e_H, e_Main_W, e_Main_H, e_Alt_W, e_Alt_H, e_OnAlt, e_X, e_Y, e_Wrap, e_A_Fg, e_A_Bg, e_A_Bold, e_A_Under, e_A_Turn, e_Top, e_Bot, e_NoWrap, e_Hide, e_SaveX, e_SaveY, e_SaveA_Fg, e_SaveA_Bg, e_SaveA_Bold, e_SaveA_Under, e_SaveA_Turn, e_Limit]) ?_
 refine WC.skip ?_
 refine hK33 _ _ ?_
 refine WC.seq (fun K35 hK35 => ?_)
 refine WC.rr tbk hs25 [1, 0] rfl ⟨rfl, rfl, trivial⟩ ?_
 refine WC.condF rfl (by simp [e_W, e_H, e_Main_W, e_Main_H, e_Alt_W, e_Alt_H, e_OnAlt, e_X, e_Y, e_Wrap, e_A_Fg, e_A_Bg, e_A_Bold, e_A_Under, e_A_Turn, e_Top, e_Bot, e_NoWrap, e_Hide, e_SaveX, e_SaveY, e_SaveA_Fg, e_SaveA_Bg, e_SaveA_Bold, e_SaveA_Under, e_SaveA_Turn, e_Limit]) ?_
 refine WC.skip ?_
 refine hK35 _ _ ?_
 refine WC.seq (fun K37 hK37 => ?_)
 refine WC.rr tbk hs25 [1, 0] rfl ⟨rfl, rfl, trivial⟩ ?_
 refine WC.condF rfl (by simp [e_W, e_H, e_Main_W, e_Main_H, e_Alt_W, e_Alt_H, e_OnAlt, e_X, e_Y, e_Wrap, e_A_Fg, e_A_Bg, e_A_Bold, e_A_Under, e_A_Turn, e_Top, e_Bot, e_NoWrap, e_Hide, e_SaveX, e_SaveY, e_SaveA_Fg, e_SaveA_Bg, e_SaveA_Bold, e_SaveA_Under, e_SaveA_Turn, e_Limit]) ?_
 refine WC.skip ?_
 refine hK37 _ _ ?_
 refine WC.seq (fun K39 hK39 => ?_)
 refine WC.sr ?_
 refine WL.run tbk 4 hs25 [1, 0] rfl ⟨rfl, rfl, trivial⟩ ?_
 refine WL.call rfl rfl rfl (Run.call Tryz.call78 rfl rfl rfl) (c_laws_eqAttr _ _ _ _ _ _ _ _ _ _ _ ?_) ?_
 · first | assumption | rfl | omega
 rintro _ whs40 ⟨rfl, hs40⟩
 replace hs40 := hs25.call0 hs40
 refine ⟨_, rfl, ?_⟩
 refine WL.run tbk 1 hs40 [] rfl trivial ?_
 refine WL.nil ?_
 refine WC.condF rfl (by simp [e_W, e_H, e_Main_W, e_Main_H, e_Alt_W, e_Alt_H, e_OnAlt, e_X, e_Y, e_Wrap, e_A_Fg, e_A_Bg, e_A_Bold, e_A_Under, e_A_Turn, e_Top, e_Bot, e_NoWrap, e_Hide, e_SaveX, e_SaveY, e_SaveA_Fg, e_SaveA_Bg, e_SaveA_Bold, e_SaveA_Under, e_SaveA_Turn, e_Limit]) ?_
 refine WC.skip ?_
 refine hK39 _ _ ?_
 refine WC.seq (fun K42 hK42 => ?_)
 refine WC.sr ?_
 refine WL.run tbk 4 hs40 [1, 0] rfl ⟨rfl, rfl, trivial⟩ ?_
 refine WL.call rfl rfl rfl (Run.call Tryz.call33 rfl rfl rfl) (c_laws_eqIntS _ _ _ _ _ _ _ _ _ (SlF.st0 f_a.Tabs hs40) (SlF.st0 f_b.Tabs hs40) ?_ ?_) ?_
 · first | assumption | rfl | omega
 · first | assumption | rfl | omega
 rintro _ whs43 ⟨rfl, hs43⟩
 replace hs43 := hs40.call0 hs43
 refine ⟨_, rfl, ?_⟩
 refine WL.run tbk 1 hs43 [] rfl trivial ?_
 refine WL.nil ?_
 refine WC.condF rfl (by simp [e_W, e_H, e_Main_W, e_Main_H, e_Alt_W, e_Alt_H, e_OnAlt, e_X, e_Y, e_Wrap, e_A_Fg, e_A_Bg, e_A_Bold, e_A_Under, e_A_Turn, e_Top, e_Bot, e_NoWrap, e_Hide, e_SaveX, e_SaveY, e_SaveA_Fg, e_SaveA_Bg, e_SaveA_Bold, e_SaveA_Under, e_SaveA_Turn, e_Limit]) ?_
 refine WC.skip ?_
 refine hK42 _ _ ?_
 refine WC.seq (fun K45 hK45 => ?_)
 refine WC.rr tbk hs43 [1, 0] rfl ⟨rfl, rfl, trivial⟩ ?_
 refine WC.condF rfl (by simp [e_W, e_H, e_Main_W, e_Main_H, e_Alt_W, e_Alt_H, e_OnAlt, e_X, e_Y, e_Wrap, e_A_Fg, e_A_Bg, e_A_Bold, e_A_Under, e_A_Turn, e_Top, e_Bot, e_NoWrap, e_Hide, e_SaveX, e_SaveY, e_SaveA_Fg, e_SaveA_Bg, e_SaveA_Bold, e_SaveA_Under, e_SaveA_Turn, e_Limit]) ?_
 refine WC.skip ?_
 refine hK45 _ _ ?_
 refine WC.seq (fun K47 hK47 => ?_)
 refine WC.sr ?_
 refine WL.run tbk 4 hs43 [1, 0] rfl ⟨rfl, rfl, trivial⟩ ?_
 refine WL.call rfl rfl rfl (Run.call Tryz.call79 rfl rfl rfl) (c_laws_eqRowS _ _ _ _ _ _ _ _ _ (SlN.st0 okRowR.st0 f_a.Back hs43) (SlN.st0 okRowR.st0 f_b.Back hs43) ?_ ?_) ?_
 · first | assumption | rfl | omega
 · first | assumption | rfl | omega
 rintro _ whs48 ⟨rfl, hs48⟩
 replace hs48 := hs43.call0 hs48
 refine ⟨_, rfl, ?_⟩
 refine WL.run tbk 1 hs48 [] rfl trivial ?_
 refine WL.nil ?_
 refine WC.condF rfl (by simp [e_W, e_H, e_Main_W, e_Main_H, e_Alt_W, e_Alt_H, e_OnAlt, e_X, e_Y, e_Wrap, e_A_Fg, e_A_Bg, e_A_Bold, e_A_Under, e_A_Turn, e_Top, e_Bot, e_NoWrap, e_Hide, e_SaveX, e_SaveY, e_SaveA_Fg, e_SaveA_Bg, e_SaveA_Bold, e_SaveA_Under, e_SaveA_Turn, e_Limit]) ?_
 refine WC.skip ?_
 refine hK47 _ _ ?_
 refine WC.rr tbk hs48 [] rfl trivial ?_
 refine WC.ret ?_
 refine retV1 rfl (resV.tmp rfl) ?_
 refine ⟨congrArg Ending.returned ?_, hs48.nil⟩
 rfl
set_option maxHeartbeats 4000000 in
theorem c_laws_szScr (a : ScrR) (left : Int) (w : World) (f_a : okScrR 9223372036854775807 w a) (h1 : 0 ≤ left) (h2 : left ≤ 1048576) :
    Calls Tryz.prog 19 #[.agg #[i64 a.W, i64 a.H, i64 a.Main.W, i64 a.Main.H, .slice a.Main.Cells.A a.Main.Cells.n a.Main.Cells.c, i64 a.Alt.W, i64 a.Alt.H, .slice a.Alt.Cells.A a.Alt.Cells.n a.Alt.Cells.c, .bool a.OnAlt, i64 a.X, i64 a.Y, .bool a.Wrap, i64 a.A.Fg, i64 a.A.Bg, .bool a.A.Bold, .bool a.A.Under, .bool a.A.Turn, i64 a.Top, i64 a.Bot, .bool a.NoWrap, .bool a.Hide, i64 a.SaveX, i64 a.SaveY, i64 a.SaveA.Fg, i64 a.SaveA.Bg, .bool a.SaveA.Bold, .bool a.SaveA.Under, .bool a.SaveA.Turn, .slice a.Tabs.A a.Tabs.n a.Tabs.c, i64 a.Limit, .slice a.Back.A a.Back.n a.Back.c], i64 left] w fun e w' => e = .returned (.int .i64 (szR left (totScr a.dat))) ∧ St w [] [] w' := by
 have nb_a_Main_Cells := f_a.Main.Cells_n
 have nl_a_Main_Cells := f_a.Main.Cells.len
 have nb_a_Alt_Cells := f_a.Alt.Cells_n
 have nl_a_Alt_Cells := f_a.Alt.Cells.len
 have nb_a_Tabs := f_a.Tabs_n
 have nl_a_Tabs := f_a.Tabs.len
 have nb_a_Back := f_a.Back_n
 have nl_a_Back := f_a.Back.sl.len
 refine enter (vs := [.agg #[i64 a.W, i64 a.H, i64 a.Main.W, i64 a.Main.H, .slice a.Main.Cells.A a.Main.Cells.n a.Main.Cells.c, i64 a.Alt.W, i64 a.Alt.H, .slice a.Alt.Cells.A a.Alt.Cells.n a.Alt.Cells.c, .bool a.OnAlt, i64 a.X, i64 a.Y, .bool a.Wrap, i64 a.A.Fg, i64 a.A.Bg, .bool a.A.Bold, .bool a.A.Under, .bool a.A.Turn, i64 a.Top, i64 a.Bot, .bool a.NoWrap, .bool a.Hide, i64 a.SaveX, i64 a.SaveY, i64 a.SaveA.Fg, i64 a.SaveA.Bg, .bool a.SaveA.Bold, .bool a.SaveA.Under, .bool a.SaveA.Turn, .slice a.Tabs.A a.Tabs.n a.Tabs.c, i64 a.Limit, .slice a.Back.A a.Back.n a.Back.c], i64 left]) 30 Tryz.func19 rfl Tryz.ntmps19 rfl rfl ?_
 have hs1 := St.init w
 refine WC.sr ?_
 refine WL.bx hs1 rfl (fun b2 _ hs3 => ?_)
 refine WL.run tbk 1 hs3 [] rfl trivial ?_
 refine WL.nil ?_
 refine WC.sr ?_
 refine WL.run tbk 3 hs3 [0] rfl ⟨rfl, trivial⟩ ?_
 refine WL.call rfl rfl rfl (Run.call Tryz.call60 rfl rfl rfl) (c_laws_szGrid a.Main _ _ (okGridR.st0 f_a.Main hs3) ?_ ?_) ?_
 · first | assumption | omega
 · first | assumption | omega | exact szR_b (by assumption) (by omega) (by first | assumption | omega)
 rintro _ whs4 ⟨rfl, hs4⟩
 replace hs4 := hs3.call0 hs4
 refine ⟨_, rfl, ?_⟩
 refine WL.run tbk 1 hs4 [] rfl trivial ?_
 refine WL.nil ?_
 refine WC.seq (fun K5 hK5 => ?_)
 refine WC.rr tbk hs4 [] rfl trivial ?_
 refine WC.cD rfl (fun qh6 => ?_) (fun qh6 => ?_)
 ·try have soh6 := szR_ok qh6 (by omega)
  try have sbh6 := szR_b qh6 (by omega) (by first | assumption | omega)
  try have snh6 := szR_no qh6
  refine WC.rr tbk hs4 [] rfl trivial ?_
  refine WC.ret ?_
  refine tkR ?_
  clear hK5
  refine retV1 rfl (resV.tmp rfl) ?_
  refine ⟨congrArg Ending.returned ?_, hs4.nil⟩
  simp only [totGrid, totScr, GridR.dat, ScrR.dat] at *; first | (rw [szR_lt (by omega)]; done) | (refine congrArg (Value.int _) ?_; symm; refine (szR_le ?_).trans ?_ <;> omega) | rfl
 ·try have soh6 := szR_ok qh6 (by omega)
  try have sbh6 := szR_b qh6 (by omega) (by first | assumption | omega)
  try have snh6 := szR_no qh6
  refine WC.skip ?_
  refine hK5 _ _ ?_
  refine WC.sr ?_
  refine WL.run tbk 3 hs4 [0] rfl ⟨rfl, trivial⟩ ?_
  refine WL.call rfl rfl rfl (Run.call Tryz.call60 rfl rfl rfl) (c_laws_szGrid a.Alt _ _ (okGridR.st0 f_a.Alt hs4) ?_ ?_) ?_
  · first | assumption | omega
  · first | assumption | omega | exact szR_b (by assumption) (by omega) (by first | assumption | omega)
  rintro _ whs7 ⟨rfl, hs7⟩
  replace hs7 := hs4.call0 hs7
  refine ⟨_, rfl, ?_⟩
  refine WL.run tbk 1 hs7 [] rfl trivial ?_
  refine WL.nil ?_
  refine WC.seq (fun K8 hK8 => ?_)
  refine WC.rr tbk hs7 [] rfl trivial ?_
  refine WC.cD rfl (fun qh9 => ?_) (fun qh9 => ?_)
  ·try have soh9 := szR_ok qh9 (by omega)
   try have sbh9 := szR_b qh9 (by omega) (by first | assumption | omega)
   try have snh9 := szR_no qh9
   refine WC.rr tbk hs7 [] rfl trivial ?_
   refine WC.ret ?_
   refine tkR ?_
   clear hK8
   refine retV1 rfl (resV.tmp rfl) ?_
   refine ⟨congrArg Ending.returned ?_, hs7.nil⟩
   simp only [totGrid, totScr, GridR.dat, ScrR.dat] at *; first | (rw [szR_lt (by omega)]; done) | (refine congrArg (Value.int _) ?_; symm; refine (szR_le ?_).trans ?_ <;> omega) | rfl
  ·try have soh9 := szR_ok qh9 (by omega)
   try have sbh9 := szR_b qh9 (by omega) (by first | assumption | omega)
   try have snh9 := szR_no qh9
   refine WC.skip ?_
   refine hK8 _ _ ?_
   refine WC.sr ?_
   refine WL.run tbk 3 hs7 [0] rfl ⟨rfl, trivial⟩ ?_
   refine WL.call rfl rfl rfl (Run.call Tryz.call61 rfl rfl rfl) (c_laws_szIntS _ _ _ _ _ _ (SlF.st0 f_a.Tabs hs7) ?_ ?_ ?_) ?_
   · first | assumption | omega
   · first | assumption | omega | exact szR_b (by assumption) (by omega) (by first | assumption | omega)
   · first | assumption | omega
   rintro _ whs10 ⟨rfl, hs10⟩
   replace hs10 := hs7.call0 hs10
   refine ⟨_, rfl, ?_⟩
   refine WL.run tbk 1 hs10 [] rfl trivial ?_
   refine WL.nil ?_
   refine WC.seq (fun K11 hK11 => ?_)
   refine WC.rr tbk hs10 [] rfl trivial ?_
   refine WC.cD rfl (fun qh12 => ?_) (fun qh12 => ?_)
   ·try have soh12 := szR_ok qh12 (by omega)
    try have sbh12 := szR_b qh12 (by omega) (by first | assumption | omega)
    try have snh12 := szR_no qh12
    refine WC.rr tbk hs10 [] rfl trivial ?_
    refine WC.ret ?_
    refine tkR ?_
    clear hK11
    refine retV1 rfl (resV.tmp rfl) ?_
    refine ⟨congrArg Ending.returned ?_, hs10.nil⟩
    simp only [totGrid, totScr, GridR.dat, ScrR.dat] at *; first | (rw [szR_lt (by omega)]; done) | (refine congrArg (Value.int _) ?_; symm; refine (szR_le ?_).trans ?_ <;> omega) | rfl
   ·try have soh12 := szR_ok qh12 (by omega)
    try have sbh12 := szR_b qh12 (by omega) (by first | assumption | omega)
    try have snh12 := szR_no qh12
    refine WC.skip ?_
    refine hK11 _ _ ?_
    refine WC.sr ?_
    refine WL.run tbk 3 hs10 [0] rfl ⟨rfl, trivial⟩ ?_
    refine WL.call rfl rfl rfl (Run.call Tryz.call62 rfl rfl rfl) (c_laws_szRowS _ _ _ _ _ _ (SlN.st0 okRowR.st0 f_a.Back hs10) ?_ ?_ ?_) ?_
    · first | assumption | omega
    · first | assumption | omega | exact szR_b (by assumption) (by omega) (by first | assumption | omega)
    · first | assumption | omega
    rintro _ whs13 ⟨rfl, hs13⟩
    replace hs13 := hs10.call0 hs13
    refine ⟨_, rfl, ?_⟩
    refine WL.run tbk 1 hs13 [] rfl trivial ?_
    refine WL.nil ?_
    refine WC.seq (fun K14 hK14 => ?_)
    refine WC.rr tbk hs13 [] rfl trivial ?_
    refine WC.cD rfl (fun qh15 => ?_) (fun qh15 => ?_)
    ·try have soh15 := szR_ok qh15 (by omega)
     try have sbh15 := szR_b qh15 (by omega) (by first | assumption | omega)
     try have snh15 := szR_no qh15
     refine WC.rr tbk hs13 [] rfl trivial ?_
     refine WC.ret ?_
     refine tkR ?_
     clear hK14
     refine retV1 rfl (resV.tmp rfl) ?_
     refine ⟨congrArg Ending.returned ?_, hs13.nil⟩
     simp only [totGrid, totScr, GridR.dat, ScrR.dat] at *; first | (rw [szR_lt (by omega)]; done) | (refine congrArg (Value.int _) ?_; symm; refine (szR_le ?_).trans ?_ <;> omega) | rfl
    ·try have soh15 := szR_ok qh15 (by omega)
     try have sbh15 := szR_b qh15 (by omega) (by first | assumption | omega)
     try have snh15 := szR_no qh15
     refine WC.skip ?_
     refine hK14 _ _ ?_
     refine WC.rr tbk hs13 [] rfl trivial ?_
     refine WC.ret ?_
     refine retV1 rfl (resV.tmp rfl) ?_
     refine ⟨congrArg Ending.returned ?_, hs13.nil⟩
     simp only [totGrid, totScr, GridR.dat, ScrR.dat] at *; first | (rw [szR_lt (by omega)]; done) | (refine congrArg (Value.int _) ?_; symm; refine (szR_le ?_).trans ?_ <;> omega) | rfl
set_option maxHeartbeats 4000000 in
theorem c_laws_markScr (a : ScrR) (L_a : Hp) (k : Int) (w : World) (o_a : ownScrR a L_a) (h_a : ∀ p, p ∈ L_a → w.heap[p.1]? = some p.2) (hd_ : ((L_a).map (·.1)).Nodup) (h1 : 0 ≤ k) (h2 : endScr k a ≤ 549755813888) (hb_Back : a.Back.xs.length ≤ 549755813888) :
    Calls Tryz.prog 24 #[.agg #[i64 a.W, i64 a.H, i64 a.Main.W, i64 a.Main.H, .slice a.Main.Cells.A a.Main.Cells.n a.Main.Cells.c, i64 a.Alt.W, i64 a.Alt.H, .slice a.Alt.Cells.A a.Alt.Cells.n a.Alt.Cells.c, .bool a.OnAlt, i64 a.X, i64 a.Y, .bool a.Wrap, i64 a.A.Fg, i64 a.A.Bg, .bool a.A.Bold, .bool a.A.Under, .bool a.A.Turn, i64 a.Top, i64 a.Bot, .bool a.NoWrap, .bool a.Hide, i64 a.SaveX, i64 a.SaveY, i64 a.SaveA.Fg, i64 a.SaveA.Bg, .bool a.SaveA.Bold, .bool a.SaveA.Under, .bool a.SaveA.Turn, .slice a.Tabs.A a.Tabs.n a.Tabs.c, i64 a.Limit, .slice a.Back.A a.Back.n a.Back.c], i64 k] w fun e w' => ∃ L1, e = .returned (.int .i64 (endScr k a)) ∧ St w (L_a.map (·.1)) L1 w' ∧ ownScrR (markScr k a) L1 := by
 have hq2 := h2
 simp only [endGrid, endScr] at hq2
 have hcn_Back := cnts_nonneg (c := cntERow) (fun x => by simp only [cntERow]; omega) a.Back.xs
 refine enter (vs := [.agg #[i64 a.W, i64 a.H, i64 a.Main.W, i64 a.Main.H, .slice a.Main.Cells.A a.Main.Cells.n a.Main.Cells.c, i64 a.Alt.W, i64 a.Alt.H, .slice a.Alt.Cells.A a.Alt.Cells.n a.Alt.Cells.c, .bool a.OnAlt, i64 a.X, i64 a.Y, .bool a.Wrap, i64 a.A.Fg, i64 a.A.Bg, .bool a.A.Bold, .bool a.A.Under, .bool a.A.Turn, i64 a.Top, i64 a.Bot, .bool a.NoWrap, .bool a.Hide, i64 a.SaveX, i64 a.SaveY, i64 a.SaveA.Fg, i64 a.SaveA.Bg, .bool a.SaveA.Bold, .bool a.SaveA.Under, .bool a.SaveA.Turn, .slice a.Tabs.A a.Tabs.n a.Tabs.c, i64 a.Limit, .slice a.Back.A a.Back.n a.Back.c], i64 k]) 22 Tryz.func24 rfl Tryz.ntmps24 rfl rfl ?_
 have hs1 := St.takes1 w L_a h_a hd_
 refine WC.sr ?_
 refine WL.bx hs1 rfl (fun b2 _ hs3 => ?_)
 refine WL.run tbk 1 hs3 [] rfl trivial ?_
 refine WL.nil ?_
 refine WC.sr ?_
 refine WL.run tbk 3 hs3 [0] rfl ⟨rfl, trivial⟩ ?_
 obtain ⟨L4, L5, L6, L7, hs12, ho8, ho9, ho10, ho11⟩ := ownScrR.open_ (St.perm hs3 (L' := L_a ++ _) (perm_front (A := [_]) (List.Perm.refl _))) o_a
 have hs13 := (St.perm hs12 (L' := [_] ++ _) (perm_front (A := L4) (perm_front (A := L5) (perm_front (A := L6) (perm_front (A := L7) (List.Perm.refl _))))))
 refine WL.call rfl rfl rfl (Run.call Tryz.call80 rfl rfl rfl) (c_laws_markGrid ⟨a.Main.W, a.Main.H, SlD.of ho8⟩ _ _ _ ho8 (fun p_ hp_ => (hs13.own p_ (List.mem_append_right [_] (List.mem_append_left _ hp_))).1) (St.nodupL (St.perm hs13 (L' := L4 ++ _) (perm_front (A := [_]) (List.Perm.refl _)))) ?_ ?_) ?_
 · first | (first | assumption | omega) | (simp only [endGrid, endScr]; omega)
 · first | (first | assumption | omega | (simp only [endGrid]; omega)) | (simp only [endGrid, endScr]; omega)
 rintro _ whs14 ⟨L1_15, rfl, hs14, ho16⟩
 replace hs14 := St.lend (St.perm hs13 (L' := L4 ++ _) (perm_front (A := [_]) (List.Perm.refl _))) hs14
 refine ⟨_, rfl, ?_⟩
 replace hs14 := St.back [_] hs14
 refine WL.run tbk 1 hs14 [] rfl trivial ?_
 refine WL.nil ?_
 refine WC.sr ?_
 refine WL.run tbk 3 hs14 [0] rfl ⟨rfl, trivial⟩ ?_
 refine WL.call rfl rfl rfl (Run.call Tryz.call80 rfl rfl rfl) (c_laws_markGrid ⟨a.Alt.W, a.Alt.H, SlD.of ho9⟩ _ _ _ ho9 (fun p_ hp_ => (hs14.own p_ (List.mem_append_right [_] (List.mem_append_right _ (List.mem_append_left _ hp_)))).1) (St.nodupL (St.perm hs14 (L' := L5 ++ _) (perm_front (A := [_]) (perm_front (A := L1_15) (List.Perm.refl _))))) ?_ ?_) ?_
 · first | (first | assumption | omega) | (simp only [endGrid, endScr]; omega)
 · first | (first | assumption | omega | (simp only [endGrid]; omega)) | (simp only [endGrid, endScr]; omega)
 rintro _ whs17 ⟨L1_18, rfl, hs17, ho19⟩
 replace hs17 := St.lend (St.perm hs14 (L' := L5 ++ _) (perm_front (A := [_]) (perm_front (A := L1_15) (List.Perm.refl _)))) hs17
 refine ⟨_, rfl, ?_⟩
 replace hs17 := St.back [_] hs17
 refine WL.run tbk 1 hs17 [] rfl trivial ?_
 refine WL.nil ?_
 refine WC.sr ?_
 refine WL.run tbk 3 hs17 [0] rfl ⟨rfl, trivial⟩ ?_
 refine WL.call rfl rfl rfl (Run.call Tryz.call34 rfl rfl rfl) (c_laws_markIntS _ _ _ _ _ ho10 (fun p_ hp_ => (hs17.own p_ (List.mem_append_right [_] (List.mem_append_right _ (List.mem_append_right _ (List.mem_append_left _ hp_))))).1) ?_ ?_ ?_) ?_
 · first | (first | assumption | rfl | omega) | (simp only [endGrid, endScr]; omega)
 · first | (first | assumption | rfl | omega) | (simp only [endGrid, endScr]; omega)
 · first | (first | assumption | rfl | omega) | (simp only [endGrid, endScr]; omega)
 rintro _ whs20 ⟨L1_21, rfl, hs20, ho22⟩
 replace hs20 := St.lend (St.perm hs17 (L' := L6 ++ _) (perm_front (A := [_]) (perm_front (A := L1_18) (perm_front (A := L1_15) (List.Perm.refl _))))) hs20
 refine ⟨_, rfl, ?_⟩
 replace hs20 := St.back [_] hs20
 refine WL.run tbk 1 hs20 [] rfl trivial ?_
 refine WL.nil ?_
 refine WC.sr ?_
 refine WL.run tbk 3 hs20 [0] rfl ⟨rfl, trivial⟩ ?_
 refine WL.call rfl rfl rfl (Run.call Tryz.call81 rfl rfl rfl) (c_laws_markRowS _ _ _ _ _ ho11 (fun p_ hp_ => (hs20.own p_ (List.mem_append_right [_] (List.mem_append_right _ (List.mem_append_right _ (List.mem_append_right _ (List.mem_append_left _ hp_)))))).1) (St.nodupL (St.perm hs20 (L' := L7 ++ _) (perm_front (A := [_]) (perm_front (A := L1_21) (perm_front (A := L1_18) (perm_front (A := L1_15) (List.Perm.refl _))))))) ?_ ?_ ?_) ?_
 · first | (first | assumption | omega) | (simp only [endGrid, endScr]; omega)
 · first | (first | assumption | omega) | (simp only [endGrid, endScr]; omega)
 · first | (first | assumption | omega) | (simp only [endGrid, endScr]; omega)
 rintro _ whs23 ⟨L1_24, rfl, hs23, ho25⟩
 replace hs23 := St.lend (St.perm hs20 (L' := L7 ++ _) (perm_front (A := [_]) (perm_front (A := L1_21) (perm_front (A := L1_18) (perm_front (A := L1_15) (List.Perm.refl _)))))) hs23
 refine ⟨_, rfl, ?_⟩
 replace hs23 := St.back [_] hs23
 refine WL.run tbk 1 hs23 [] rfl trivial ?_
 refine WL.nil ?_
 refine WC.rr tbk hs23 [] rfl trivial ?_
 refine WC.ret ?_
 refine retV1 rfl (resV.tmp rfl) ?_
 obtain ⟨L27, hs26, ho28⟩ := ownScrR.fold ⟨0, 0, ⟨0, 0, ⟨_, _, _, _⟩⟩, ⟨0, 0, ⟨_, _, _, _⟩⟩, false, 0, 0, false, ⟨0, 0, false, false, false⟩, 0, 0, false, false, 0, 0, ⟨0, 0, false, false, false⟩, ⟨_, _, _, _⟩, 0, ⟨_, _, _, _⟩⟩ (St.perm (St.perm (St.perm (St.perm hs23 (L' := L1_24 ++ _) (perm_front (A := [_]) (List.Perm.refl _))) (L' := L1_21 ++ _) (perm_front (A := L1_24) (perm_front (A := [_]) (List.Perm.refl _)))) (L' := L1_18 ++ _) (perm_front (A := L1_21) (perm_front (A := L1_24) (perm_front (A := [_]) (List.Perm.refl _))))) (L' := L1_15 ++ _) (perm_front (A := L1_18) (perm_front (A := L1_21) (perm_front (A := L1_24) (perm_front (A := [_]) (List.Perm.refl _)))))) ho16 ho19 ho22 ho25
 have hs29 := (St.perm hs26 (L' := [_] ++ _) (perm_front (A := L27) (List.Perm.refl _)))
 refine ⟨_, congrArg Ending.returned ?_, (St.keep1 (St.perm hs29 (L' := L27 ++ _) (perm_front (A := [_]) (List.Perm.refl _)))), (by exact ho28)⟩
 first | rfl | (simp [endScr]; done) | (simp [endScr]; omega)
set_option maxHeartbeats 4000000 in
theorem c_laws_heldScr (a : ScrR) (k : Int) (w : World) (f_a : okScrR 549755813888 w (markScr k a)) (h1 : 0 ≤ k) (h2 : endScr k a ≤ 549755813888) :
    Calls Tryz.prog 25 #[.agg #[i64 a.W, i64 a.H, i64 a.Main.W, i64 a.Main.H, .slice a.Main.Cells.A a.Main.Cells.n a.Main.Cells.c, i64 a.Alt.W, i64 a.Alt.H, .slice a.Alt.Cells.A a.Alt.Cells.n a.Alt.Cells.c, .bool a.OnAlt, i64 a.X, i64 a.Y, .bool a.Wrap, i64 a.A.Fg, i64 a.A.Bg, .bool a.A.Bold, .bool a.A.Under, .bool a.A.Turn, i64 a.Top, i64 a.Bot, .bool a.NoWrap, .bool a.Hide, i64 a.SaveX, i64 a.SaveY, i64 a.SaveA.Fg, i64 a.SaveA.Bg, .bool a.SaveA.Bold, .bool a.SaveA.Under, .bool a.SaveA.Turn, .slice a.Tabs.A a.Tabs.n a.Tabs.c, i64 a.Limit, .slice a.Back.A a.Back.n a.Back.c], i64 k] w fun e w' => e = .returned (.int .i64 (endScr k a)) ∧ St w [] [] w' := by
 have fm_Main : okGridR 549755813888 w (markGrid k a.Main) := f_a.Main
 have fm_Alt : okGridR 549755813888 w (markGrid (endGrid k a.Main) a.Alt) := f_a.Alt
 have nb_Main_Cells : a.Main.Cells.n ≤ 549755813888 := f_a.Main.Cells_n
 have nl_Main_Cells : a.Main.Cells.xs.length = a.Main.Cells.n := by have h_ := f_a.Main.Cells.len; simpa [markGrid, markScr, marks_len, mrks_len] using h_
 have nb_Alt_Cells : a.Alt.Cells.n ≤ 549755813888 := f_a.Alt.Cells_n
 have nl_Alt_Cells : a.Alt.Cells.xs.length = a.Alt.Cells.n := by have h_ := f_a.Alt.Cells.len; simpa [markGrid, markScr, marks_len, mrks_len] using h_
 have nb_Tabs : a.Tabs.n ≤ 549755813888 := f_a.Tabs_n
 have nl_Tabs : a.Tabs.xs.length = a.Tabs.n := by have h_ := f_a.Tabs.len; simpa [markGrid, markScr, marks_len, mrks_len] using h_
 have nb_Back : a.Back.n ≤ 549755813888 := f_a.Back_n
 have nl_Back : a.Back.xs.length = a.Back.n := by have h_ := f_a.Back.sl.len; simpa [markGrid, markScr, marks_len, mrks_len] using h_
 have fm_Main : okGridR 549755813888 w (markGrid k a.Main) := f_a.Main
 have fm_Alt : okGridR 549755813888 w (markGrid (endGrid k a.Main) a.Alt) := f_a.Alt
 have nb_Main_Cells : a.Main.Cells.n ≤ 549755813888 := f_a.Main.Cells_n
 have nl_Main_Cells : a.Main.Cells.xs.length = a.Main.Cells.n := by have h_ := f_a.Main.Cells.len; simpa [markGrid, markScr, marks_len, mrks_len] using h_
 have nb_Alt_Cells : a.Alt.Cells.n ≤ 549755813888 := f_a.Alt.Cells_n
 have nl_Alt_Cells : a.Alt.Cells.xs.length = a.Alt.Cells.n := by have h_ := f_a.Alt.Cells.len; simpa [markGrid, markScr, marks_len, mrks_len] using h_
 have nb_Tabs : a.Tabs.n ≤ 549755813888 := f_a.Tabs_n
 have nl_Tabs : a.Tabs.xs.length = a.Tabs.n := by have h_ := f_a.Tabs.len; simpa [markGrid, markScr, marks_len, mrks_len] using h_
 have nb_Back : a.Back.n ≤ 549755813888 := f_a.Back_n
 have nl_Back : a.Back.xs.length = a.Back.n := by have h_ := f_a.Back.sl.len; simpa [markGrid, markScr, marks_len, mrks_len] using h_
 have hq2 := h2
 simp only [endGrid, endScr] at hq2
 have hcn_Back := cnts_nonneg (c := cntERow) (fun x => by simp only [cntERow]; omega) a.Back.xs
 refine enter (vs := [.agg #[i64 a.W, i64 a.H, i64 a.Main.W, i64 a.Main.H, .slice a.Main.Cells.A a.Main.Cells.n a.Main.Cells.c, i64 a.Alt.W, i64 a.Alt.H, .slice a.Alt.Cells.A a.Alt.Cells.n a.Alt.Cells.c, .bool a.OnAlt, i64 a.X, i64 a.Y, .bool a.Wrap, i64 a.A.Fg, i64 a.A.Bg, .bool a.A.Bold, .bool a.A.Under, .bool a.A.Turn, i64 a.Top, i64 a.Bot, .bool a.NoWrap, .bool a.Hide, i64 a.SaveX, i64 a.SaveY, i64 a.SaveA.Fg, i64 a.SaveA.Bg, .bool a.SaveA.Bold, .bool a.SaveA.Under, .bool a.SaveA.Turn, .slice a.Tabs.A a.Tabs.n a.Tabs.c, i64 a.Limit, .slice a.Back.A a.Back.n a.Back.c], i64 k]) 30 Tryz.func25 rfl Tryz.ntmps25 rfl rfl ?_
 have hs1 := St.init w
 refine WC.sr ?_
 refine WL.bx hs1 rfl (fun b2 _ hs3 => ?_)
 refine WL.run tbk 1 hs3 [] rfl trivial ?_
 refine WL.nil ?_
 refine WC.sr ?_
 refine WL.run tbk 3 hs3 [0] rfl ⟨rfl, trivial⟩ ?_
 refine WL.call rfl rfl rfl (Run.call Tryz.call82 rfl rfl rfl) (c_laws_heldGrid _ _ _ (okGridR.st0 fm_Main hs3) ?_ ?_) ?_
 · first | (first | assumption | omega) | (simp only [endGrid, endScr]; omega)
 · first | (first | assumption | omega | (simp only [endGrid]; omega)) | (simp only [endGrid, endScr]; omega)
 rintro _ whs4 ⟨rfl, hs4⟩
 replace hs4 := hs3.call0 hs4
 refine ⟨_, rfl, ?_⟩
 refine WL.run tbk 1 hs4 [] rfl trivial ?_
 refine WL.nil ?_
 refine WC.seq (fun K5 hK5 => ?_)
 refine WC.rr tbk hs4 [] rfl trivial ?_
 refine WC.condF rfl (by first | (simp; omega) | (rw [decide_eq_false_iff_not]; simp only [endGrid, endScr]; omega)) ?_
 refine WC.skip ?_
 refine hK5 _ _ ?_
 refine WC.sr ?_
 refine WL.run tbk 3 hs4 [0] rfl ⟨rfl, trivial⟩ ?_
 refine WL.call rfl rfl rfl (Run.call Tryz.call82 rfl rfl rfl) (c_laws_heldGrid _ _ _ (okGridR.st0 fm_Alt hs4) ?_ ?_) ?_
 · first | (first | assumption | omega) | (simp only [endGrid, endScr]; omega)
 · first | (first | assumption | omega | (simp only [endGrid]; omega)) | (simp only [endGrid, endScr]; omega)
 rintro _ whs7 ⟨rfl, hs7⟩
 replace hs7 := hs4.call0 hs7
 refine ⟨_, rfl, ?_⟩
 refine WL.run tbk 1 hs7 [] rfl trivial ?_
 refine WL.nil ?_
 refine WC.seq (fun K8 hK8 => ?_)
 refine WC.rr tbk hs7 [] rfl trivial ?_
 refine WC.condF rfl (by first | (simp; omega) | (rw [decide_eq_false_iff_not]; simp only [endGrid, endScr]; omega)) ?_
 refine WC.skip ?_
 refine hK8 _ _ ?_
 refine WC.sr ?_
 refine WL.run tbk 3 hs7 [0] rfl ⟨rfl, trivial⟩ ?_
 refine WL.call rfl rfl rfl (Run.call Tryz.call83 rfl rfl rfl) (c_laws_heldIntS _ _ _ _ _ _ _ (SlF.st0 f_a.Tabs hs7) rfl ?_ ?_ ?_) ?_
 · first | (first | assumption | rfl | omega) | (simp only [endGrid, endScr]; omega)
 · first | (first | assumption | rfl | omega) | (simp only [endGrid, endScr]; omega)
 · first | (first | assumption | rfl | omega) | (simp only [endGrid, endScr]; omega)
 rintro _ whs10 ⟨rfl, hs10⟩
 replace hs10 := hs7.call0 hs10
 refine ⟨_, rfl, ?_⟩
 refine WL.run tbk 1 hs10 [] rfl trivial ?_
 refine WL.nil ?_
 refine WC.seq (fun K11 hK11 => ?_)
 refine WC.rr tbk hs10 [] rfl trivial ?_
 refine WC.condF rfl (by first | (simp; omega) | (rw [decide_eq_false_iff_not]; simp only [endGrid, endScr]; omega)) ?_
 refine WC.skip ?_
 refine hK11 _ _ ?_
 refine WC.sr ?_
 refine WL.run tbk 3 hs10 [0] rfl ⟨rfl, trivial⟩ ?_
 refine WL.call rfl rfl rfl (Run.call Tryz.call84 rfl rfl rfl) (c_laws_heldRowS _ _ _ _ _ _ (SlN.st0 okRowR.st0 f_a.Back hs10) ?_ ?_ ?_) ?_
 · first | (first | assumption | omega) | (simp only [endGrid, endScr]; omega)
 · first | (first | assumption | omega) | (simp only [endGrid, endScr]; omega)
 · first | (first | assumption | omega) | (simp only [endGrid, endScr]; omega)
 rintro _ whs13 ⟨rfl, hs13⟩
 replace hs13 := hs10.call0 hs13
 refine ⟨_, rfl, ?_⟩
 refine WL.run tbk 1 hs13 [] rfl trivial ?_
 refine WL.nil ?_
 refine WC.seq (fun K14 hK14 => ?_)
 refine WC.rr tbk hs13 [] rfl trivial ?_
 refine WC.condF rfl (by first | (simp; omega) | (rw [decide_eq_false_iff_not]; simp only [endGrid, endScr]; omega)) ?_
 refine WC.skip ?_
 refine hK14 _ _ ?_
 refine WC.rr tbk hs13 [] rfl trivial ?_
 refine WC.ret ?_
 refine retV1 rfl (resV.tmp rfl) ?_
 refine ⟨congrArg Ending.returned ?_, hs13.nil⟩
 first | rfl | (simp [endGrid, endScr, *]; done) | (simp [endGrid, endScr, *]; omega)
end Go.Proofs.YtjmegoiclgancaaGreat
namespace Go.Proofs.YtjmegoiclgancaaGreat
open Go Go.RowKit
set_option linter.unusedVariables false
set_option linter.unusedSimpArgs false
set_option maxHeartbeats 8000000 in
theorem c_laws_FnExactScrEsc (aS : ScrR) (aB : Int) (w : World) (f_aS : okScrR 9223372036854775807 w aS) :
    Calls Tryz.prog 4 #[.agg #[i64 aS.W, i64 aS.H, i64 aS.Main.W, i64 aS.Main.H, .slice aS.Main.Cells.A aS.Main.Cells.n aS.Main.Cells.c, i64 aS.Alt.W, i64 aS.Alt.H, .slice aS.Alt.Cells.A aS.Alt.Cells.n aS.Alt.Cells.c, .bool aS.OnAlt, i64 aS.X, i64 aS.Y, .bool aS.Wrap, i64 aS.A.Fg, i64 aS.A.Bg, .bool aS.A.Bold, .bool aS.A.Under, .bool aS.A.Turn, i64 aS.Top, i64 aS.Bot, .bool aS.NoWrap, .bool aS.Hide, i64 aS.SaveX, i64 aS.SaveY, i64 aS.SaveA.Fg, i64 aS.SaveA.Bg, .bool aS.SaveA.Bold, .bool aS.SaveA.Under, .bool aS.SaveA.Turn, .slice aS.Tabs.A aS.Tabs.n aS.Tabs.c, i64 aS.Limit, .slice aS.Back.A aS.Back.n aS.Back.c], i64 aB] w fun e w' => e = .returned (.bool true) ∧ St w [] [] w' := by
 have nb_aS_Main_Cells := f_aS.Main.Cells_n
 have nl_aS_Main_Cells := f_aS.Main.Cells.len
 have nb_aS_Alt_Cells := f_aS.Alt.Cells_n
 have nl_aS_Alt_Cells := f_aS.Alt.Cells.len
 have nb_aS_Tabs := f_aS.Tabs_n
 have nl_aS_Tabs := f_aS.Tabs.len
 have nb_aS_Back := f_aS.Back_n
 have nl_aS_Back := f_aS.Back.sl.len
 refine enter (vs := [.agg #[i64 aS.W, i64 aS.H, i64 aS.Main.W, i64 aS.Main.H, .slice aS.Main.Cells.A aS.Main.Cells.n aS.Main.Cells.c, i64 aS.Alt.W, i64 aS.Alt.H, .slice aS.Alt.Cells.A aS.Alt.Cells.n aS.Alt.Cells.c, .bool aS.OnAlt, i64 aS.X, i64 aS.Y, .bool aS.Wrap, i64 aS.A.Fg, i64 aS.A.Bg, .bool aS.A.Bold, .bool aS.A.Under, .bool aS.A.Turn, i64 aS.Top, i64 aS.Bot, .bool aS.NoWrap, .bool aS.Hide, i64 aS.SaveX, i64 aS.SaveY, i64 aS.SaveA.Fg, i64 aS.SaveA.Bg, .bool aS.SaveA.Bold, .bool aS.SaveA.Under, .bool aS.SaveA.Turn, .slice aS.Tabs.A aS.Tabs.n aS.Tabs.c, i64 aS.Limit, .slice aS.Back.A aS.Back.n aS.Back.c], i64 aB]) 74 Tryz.func4 rfl Tryz.ntmps4 rfl rfl ?_
 have hs1 := St.init w
 refine WC.sr ?_
 refine WL.bx hs1 rfl (fun b2 _ hs3 => ?_)
 refine WL.run tbk 1 hs3 [] rfl trivial ?_
 refine WL.nil ?_
 refine WC.rr tbk hs3 [] rfl trivial ?_
 refine WC.sr ?_
 refine WL.run tbk 2 hs3 [0] rfl ⟨rfl, trivial⟩ ?_
 refine WL.call rfl rfl rfl (Run.call Tryz.call19 rfl rfl rfl) (c_laws_szScr aS _ _ (okScrR.st0 f_aS hs3) ?_ ?_) ?_
 · first | (first | assumption | omega) | (first | assumption | omega | (simp only [endAct, endGrid, endScr, endTerm, endVp]; first | done | assumption | omega))
 · first | (first | assumption | omega | exact szR_b (by assumption) (by omega) (by first | assumption | omega)) | (first | assumption | omega | (simp only [endAct, endGrid, endScr, endTerm, endVp]; first | done | assumption | omega))
 rintro _ whs4 ⟨rfl, hs4⟩
 replace hs4 := hs3.call0 hs4
 refine ⟨_, rfl, ?_⟩
 refine WL.run tbk 1 hs4 [] rfl trivial ?_
 refine WL.nil ?_
 refine WC.seq (fun K5 hK5 => ?_)
 refine WC.rr tbk hs4 [] rfl trivial ?_
 refine WC.cD rfl (fun qh6 => ?_) (fun qh6 => ?_)
 ·refine WC.rr tbk hs4 [] rfl trivial ?_
  refine WC.ret ?_
  refine tkR ?_
  clear hK5
  refine retV1 rfl (resV.tmp rfl) ?_
  refine ⟨congrArg Ending.returned ?_, hs4.nil⟩
  rfl
 ·simp only [szR] at qh6
  have hb_aS : totScr aS.dat ≤ 1048576 := by split at qh6 <;> omega
  have hsm_aS : smScr 1048576 aS.dat := totScr_sm hb_aS
  have hsB_aS : smScr 549755813888 aS.dat := totScr_sm (by omega)
  have f_aS := f_aS.to hsB_aS
  have hT := scrEscRes_tot (s := aS.dat) (b := aB)
  have hTB : smScr 549755813888 (scrEscRes aS.dat aB) := totScr_sm (by omega)
  refine WC.skip ?_
  refine hK5 _ _ ?_
  refine WC.sr ?_
  refine WL.run tbk 1 hs4 [0] rfl ⟨rfl, trivial⟩ ?_
  refine WL.call rfl rfl rfl (Run.call Tryz.call21 rfl rfl rfl) (c_laws_toScr aS _ (okScrR.st0 f_aS hs4)) ?_
  rintro _ whs7 ⟨r8, L1_9, rfl, hs7, ho10, hd11⟩
  replace hs7 := hs4.callF hs7
  refine ⟨_, rfl, ?_⟩
  replace hs7 := St.back [_] hs7
  refine WL.run tbk 1 hs7 [] rfl trivial ?_
  refine WL.call rfl rfl rfl (Run.call Tryz.call20 rfl rfl rfl) (c_spec_ScrEsc r8 _ _ (ownScrR.ok (B := 549755813888) ho10 (fun p_ hp_ => (hs7.own p_ (List.mem_append_right [_] (List.mem_append_left _ hp_))).1) (by rw [hd11]; assumption)) ?_) ?_
  · first | (first | assumption | rfl | omega) | (first | assumption | omega | (simp only [hd11, endAct, endGrid, endScr, endTerm, endVp]; first | done | assumption | omega))
  rintro _ whs12 ⟨r13, L1_14, rfl, hs12, ho15, hd16⟩
  try simp only [hd11] at hd16
  replace hs12 := hs7.callF hs12
  refine ⟨_, rfl, ?_⟩
  replace hs12 := St.back [_] hs12
  refine WL.al hs12 Tryz.zeroValue33 rfl rfl (fun b17 _ hs18 => ?_)
  refine WL.st tbk hs18 0 rfl rfl (fun _ hs19 => ?_)
  refine WL.nil ?_
  refine WC.sr ?_
  refine WL.run tbk 1 hs19 [1] rfl ⟨rfl, trivial⟩ ?_
  refine WL.call rfl rfl rfl (Run.call Tryz.call21 rfl rfl rfl) (c_laws_toScr aS _ (okScrR.st0 f_aS hs19)) ?_
  rintro _ whs20 ⟨r21, L1_22, rfl, hs20, ho23, hd24⟩
  try simp only [hd11, hd16] at hd24
  replace hs20 := hs19.callF hs20
  refine ⟨_, rfl, ?_⟩
  replace hs20 := St.back [_, _] hs20
  have el0 := endScr_le 1 r21
  rw [hd24] at el0
  have eg0 := endScr_ge 1 r21
  have eb0 : endScr 1 r21 ≤ 549755813888 := by omega
  have en0_Back : r21.Back.xs.length ≤ 549755813888 := by have h1 := tots_len totRow (r21.Back.xs.map RowR.dat); rw [List.length_map] at h1; have h2 : totScr r21.dat ≤ 1048576 := (by rw [hd24]; exact hb_aS); simp only [GridR.dat, ScrR.dat, totGrid, totScr] at h2; omega
  refine WL.al hs20 Tryz.zeroValue33 rfl rfl (fun b25 _ hs26 => ?_)
  refine WL.st tbk hs26 0 rfl rfl (fun _ hs27 => ?_)
  refine WL.nil ?_
  refine WC.sr ?_
  refine WL.run tbk 2 hs27 [0] rfl ⟨rfl, trivial⟩ ?_
  refine WL.call rfl rfl rfl (Run.call Tryz.call22 rfl rfl rfl) (c_impl_ScrEsc r21 _ _ (ownScrR.ok (B := 549755813888) ho23 (fun p_ hp_ => (hs27.own p_ (List.mem_append_right [_, _, _] (List.mem_append_left _ hp_))).1) (by rw [hd24]; assumption)) ?_) ?_
  · first | (first | assumption | rfl | omega) | (first | assumption | omega | (simp only [hd11, hd16, hd24, endAct, endGrid, endScr, endTerm, endVp]; first | done | assumption | omega))
  rintro _ whs28 ⟨r29, L1_30, rfl, hs28, ho31, hd32⟩
  try simp only [hd11, hd16, hd24] at hd32
  replace hs28 := hs27.callF hs28
  refine ⟨_, rfl, ?_⟩
  replace hs28 := St.back [_, _, _] hs28
  have el1 := endScr_le 1 r29
  rw [hd32] at el1
  have eg1 := endScr_ge 1 r29
  have eb1 : endScr 1 r29 ≤ 549755813888 := by omega
  have en1_Back : r29.Back.xs.length ≤ 549755813888 := by have h1 := tots_len totRow (r29.Back.xs.map RowR.dat); rw [List.length_map] at h1; have h2 : totScr r29.dat ≤ 20220 := (by rw [hd32]; exact hT); simp only [GridR.dat, ScrR.dat, totGrid, totScr] at h2; omega
  refine WL.al hs28 Tryz.zeroValue33 rfl rfl (fun b33 _ hs34 => ?_)
  refine WL.st tbk hs34 0 rfl rfl (fun _ hs35 => ?_)
  refine WL.nil ?_
  refine WC.seq (fun K36 hK36 => ?_)
  refine WC.sr ?_
  refine WL.run tbk 2 hs35 [0, 2] rfl ⟨rfl, rfl, trivial⟩ ?_
  refine WL.call rfl rfl rfl (Run.call Tryz.call23 rfl rfl rfl) (c_laws_eqScr r29 r13 _ (ownScrR.ok (B := 549755813888) ho31 (fun p_ hp_ => (hs35.own p_ (List.mem_append_right [_, _, _, _] (List.mem_append_left _ hp_))).1) (by rw [hd32]; assumption)) (ownScrR.ok (B := 549755813888) ho15 (fun p_ hp_ => (hs35.own p_ (List.mem_append_right [_, _, _, _] (List.mem_append_right _ (List.mem_append_right _ (List.mem_append_left _ hp_))))).1) (by rw [hd16]; assumption)) ?_) ?_
  · first | (first | assumption | rfl | omega) | (first | assumption | omega | (simp only [hd11, hd16, hd24, hd32, endAct, endGrid, endScr, endTerm, endVp]; first | done | assumption | omega))
  rintro _ whs37 ⟨rfl, hs37⟩
  replace hs37 := hs35.call0 hs37
  refine ⟨_, rfl, ?_⟩
  refine WL.run tbk 1 hs37 [] rfl trivial ?_
  refine WL.nil ?_
  refine WC.condF rfl (by first | (simp; done) | (simp; omega) | (simp [hd11, hd16, hd24, hd32]; done) | (simp [hd11, hd16, hd24, hd32]; omega) | (simp only [endAct, endGrid, endScr, endTerm, endVp]; simp; omega)) ?_
  refine WC.skip ?_
  refine hK36 _ _ ?_
  refine WC.seq (fun K39 hK39 => ?_)
  refine WC.seq (fun K40 hK40 => ?_)
  refine WC.regionH2 (fun w' => St _ _ _ w') (fun w' => St _ _ _ w') mixed (St.drew hs37) (St.drew hs37) (fun whs41 hs41 => ?_)
  replace hs41 : St _ _ _ _ := hs41
  refine WH.take 0 rfl (by kernel_rfl) rfl rfl rfl hs41 (fun w_ hs_ => (Run.loadLA (hs_ : St _ _ _ _) 1 Tryz.isAgg33 Tryz.sizeOf33 rfl rfl rfl rfl rfl)) ?_
  refine WH.take 1 rfl (by kernel_rfl) rfl rfl rfl hs41 (fun w_ hs_ => (Run.loadLA (hs_ : St _ _ _ _) 3 Tryz.isAgg50 Tryz.sizeOf50 rfl rfl rfl rfl rfl)) ?_
  refine WH.all [2] (by kernel_rfl) rfl (WHs.cons (i := 2) rfl ?_ WHs.nil)
  refine WL.call rfl rfl rfl (Run.call Tryz.call21 rfl rfl rfl) (c_laws_toScr aS _ (okScrR.st0 f_aS hs41)) ?_
  rintro _ whs42 ⟨r43, L1_44, rfl, hs42, ho45, hd46⟩
  try simp only [hd11, hd16, hd24, hd32] at hd46
  replace hs42 := hs41.callF hs42
  refine ⟨_, rfl, ?_⟩
  replace hs42 := St.back [_, _, _, _] hs42
  refine WL.nil ⟨(St.drop (St.perm hs42 (L' := L1_44 ++ _) (perm_front (A := [_, _, _, _]) (List.Perm.refl _))) (List.sublist_append_right L1_44 _)), ?_⟩
  refine WH.all [3] (by kernel_rfl) rfl (WHs.cons (i := 3) rfl ?_ WHs.nil)
  refine WL.call rfl rfl rfl (Run.call Tryz.call23 rfl rfl rfl) (c_laws_eqScr r21 r43 _ (ownScrR.ok (B := 549755813888) ho23 (fun p_ hp_ => (hs42.own p_ (List.mem_append_right [_, _, _, _] (List.mem_append_right _ (List.mem_append_right _ (List.mem_append_left _ hp_))))).1) (by rw [hd24]; assumption)) (ownScrR.ok (B := 549755813888) ho45 (fun p_ hp_ => (hs42.own p_ (List.mem_append_right [_, _, _, _] (List.mem_append_left _ hp_))).1) (by rw [hd46]; assumption)) ?_) ?_
  · first | (first | assumption | rfl | omega) | (first | assumption | omega | (simp only [hd11, hd16, hd24, hd32, hd46, endAct, endGrid, endScr, endTerm, endVp]; first | done | assumption | omega))
  rintro _ whs47 ⟨rfl, hs47⟩
  replace hs47 := hs42.call0 hs47
  refine ⟨_, rfl, ?_⟩
  refine WL.nil ⟨(St.drop (St.perm hs47 (L' := L1_44 ++ _) (perm_front (A := [_, _, _, _]) (List.Perm.refl _))) (List.sublist_append_right L1_44 _)), ?_⟩
  refine WH.take 4 rfl (by kernel_rfl) rfl rfl rfl (St.drop (St.perm hs47 (L' := L1_44 ++ _) (perm_front (A := [_, _, _, _]) (List.Perm.refl _))) (List.sublist_append_right L1_44 _)) (fun w_ hs_ => (Run.not rfl rfl)) ?_
  refine WH.done (by kernel_rfl) ?_
  refine hK40 _ _ ?_
  refine WC.condF rfl (by first | (simp; done) | (simp; omega) | (simp [hd11, hd16, hd24, hd32, hd46]; done) | (simp [hd11, hd16, hd24, hd32, hd46]; omega) | (simp only [endAct, endGrid, endScr, endTerm, endVp]; simp; omega)) ?_
  refine WC.skip ?_
  refine hK39 _ _ ?_
  refine WC.rr tbk hs47 [] rfl trivial ?_
  refine WC.sr ?_
  refine WL.run tbk 2 hs47 [1] rfl ⟨rfl, trivial⟩ ?_
  refine WL.call rfl rfl rfl (Run.call Tryz.call24 rfl rfl rfl) (c_laws_markScr r21 _ _ _ ho23 (fun p_ hp_ => (hs47.own p_ (List.mem_append_right [_, _, _, _] (List.mem_append_right _ (List.mem_append_right _ (List.mem_append_left _ hp_))))).1) (St.nodupL (St.perm hs47 (L' := L1_22 ++ _) (perm_front (A := [_, _, _, _]) (perm_front (A := L1_44) (perm_front (A := L1_30) (List.Perm.refl _)))))) ?_ ?_ ?_) ?_
  · first | (first | assumption | omega) | (first | assumption | omega | (simp only [hd11, hd16, hd24, hd32, hd46, endAct, endGrid, endScr, endTerm, endVp]; first | done | assumption | omega))
  · first | (first | assumption | omega | (simp only [endGrid, endScr]; omega)) | (first | assumption | omega | (simp only [hd11, hd16, hd24, hd32, hd46, endAct, endGrid, endScr, endTerm, endVp]; first | done | assumption | omega))
  · first | (first | assumption | omega) | (first | assumption | omega | (simp only [hd11, hd16, hd24, hd32, hd46, endAct, endGrid, endScr, endTerm, endVp]; first | done | assumption | omega))
  rintro _ whs49 ⟨L1_50, rfl, hs49, ho51⟩
  replace hs49 := St.lend (St.perm hs47 (L' := L1_22 ++ _) (perm_front (A := [_, _, _, _]) (perm_front (A := L1_44) (perm_front (A := L1_30) (List.Perm.refl _))))) hs49
  refine ⟨_, rfl, ?_⟩
  replace hs49 := St.back [_, _, _, _] hs49
  refine WL.run tbk 1 hs49 [] rfl trivial ?_
  refine WL.nil ?_
  refine WC.seq (fun K52 hK52 => ?_)
  refine WC.sr ?_
  refine WL.run tbk 3 hs49 [] rfl trivial ?_
  apply WL.gO 4 Acts.nil hs49 rfl
  ·intro g53 J54
   have qg53 := g53
   try simp only [bf, within_iff, within_not] at qg53
   refine WL.runA tbk 2 (Acts.nil.cons (j := 2) rfl g53) hs49 [0, 2] rfl ⟨rfl, rfl, trivial⟩ ?_
   refine WL.call (wantF rfl g53) rfl rfl (Run.call Tryz.call23 rfl rfl rfl) (c_laws_eqScr r29 r13 _ (ownScrR.ok (B := 549755813888) ho31 (fun p_ hp_ => (hs49.own p_ (List.mem_append_right [_, _, _, _] (List.mem_append_right _ (List.mem_append_right _ (List.mem_append_left _ hp_))))).1) (by rw [hd32]; assumption)) (ownScrR.ok (B := 549755813888) ho15 (fun p_ hp_ => (hs49.own p_ (List.mem_append_right [_, _, _, _] (List.mem_append_right _ (List.mem_append_right _ (List.mem_append_right _ (List.mem_append_left _ hp_)))))).1) (by rw [hd16]; assumption)) ?_) ?_
   · first | (first | assumption | rfl | omega) | (first | assumption | omega | (simp only [hd11, hd16, hd24, hd32, hd46, endAct, endGrid, endScr, endTerm, endVp]; first | done | assumption | omega))
   rintro _ whs55 ⟨rfl, hs55⟩
   replace hs55 := hs49.call0 hs55
   refine ⟨_, rfl, ?_⟩
   refine WL.runA tbk 1 (Acts.nil.cons (j := 2) rfl g53) hs55 [] rfl trivial ?_
   exact WL.eO 4 Acts.nil J54 hs55 g53 rfl rfl
  ·intro _ hs56
   refine WL.nil ?_
   refine WC.condF rfl (by first | (simp; done) | (simp; omega) | (simp [hd11, hd16, hd24, hd32, hd46]; done) | (simp [hd11, hd16, hd24, hd32, hd46]; omega) | (simp only [endAct, endGrid, endScr, endTerm, endVp]; simp; omega)) ?_
   refine WC.skip ?_
   refine hK52 _ _ ?_
   refine WC.rr tbk hs56 [] rfl trivial ?_
   refine WC.sr ?_
   refine WL.run tbk 2 hs56 [0] rfl ⟨rfl, trivial⟩ ?_
   refine WL.call rfl rfl rfl (Run.call Tryz.call24 rfl rfl rfl) (c_laws_markScr r29 _ _ _ ho31 (fun p_ hp_ => (hs56.own p_ (List.mem_append_right [_, _, _, _] (List.mem_append_right _ (List.mem_append_right _ (List.mem_append_left _ hp_))))).1) (St.nodupL (St.perm hs56 (L' := L1_30 ++ _) (perm_front (A := [_, _, _, _]) (perm_front (A := L1_50) (perm_front (A := L1_44) (List.Perm.refl _)))))) ?_ ?_ ?_) ?_
   · first | (first | assumption | omega) | (first | assumption | omega | (simp only [hd11, hd16, hd24, hd32, hd46, endAct, endGrid, endScr, endTerm, endVp]; first | done | assumption | omega))
   · first | (first | assumption | omega | (simp only [endGrid, endScr]; omega)) | (first | assumption | omega | (simp only [hd11, hd16, hd24, hd32, hd46, endAct, endGrid, endScr, endTerm, endVp]; first | done | assumption | omega))
   · first | (first | assumption | omega) | (first | assumption | omega | (simp only [hd11, hd16, hd24, hd32, hd46, endAct, endGrid, endScr, endTerm, endVp]; first | done | assumption | omega))
   rintro _ whs58 ⟨L1_59, rfl, hs58, ho60⟩
   replace hs58 := St.lend (St.perm hs56 (L' := L1_30 ++ _) (perm_front (A := [_, _, _, _]) (perm_front (A := L1_50) (perm_front (A := L1_44) (List.Perm.refl _))))) hs58
   refine ⟨_, rfl, ?_⟩
   replace hs58 := St.back [_, _, _, _] hs58
   refine WL.run tbk 1 hs58 [] rfl trivial ?_
   refine WL.nil ?_
   refine WC.rr tbk hs58 [] rfl trivial ?_
   refine WC.sr ?_
   refine WL.run tbk 2 hs58 [0] rfl ⟨rfl, trivial⟩ ?_
   refine WL.call rfl rfl rfl (Run.call Tryz.call25 rfl rfl rfl) (c_laws_heldScr _ _ _ (ownScrR.ok (B := 549755813888) ho60 (fun p_ hp_ => (hs58.own p_ (List.mem_append_right [_, _, _, _] (List.mem_append_left _ hp_))).1) (markScr_sm (by rw [hd32]; assumption))) ?_ ?_) ?_
   · first | (first | assumption | omega) | (first | assumption | omega | (simp only [hd11, hd16, hd24, hd32, hd46, endAct, endGrid, endScr, endTerm, endVp]; first | done | assumption | omega))
   · first | (first | assumption | omega | (simp only [endGrid, endScr]; omega)) | (first | assumption | omega | (simp only [hd11, hd16, hd24, hd32, hd46, endAct, endGrid, endScr, endTerm, endVp]; first | done | assumption | omega))
   rintro _ whs61 ⟨rfl, hs61⟩
   replace hs61 := hs58.call0 hs61
   refine ⟨_, rfl, ?_⟩
   refine WL.run tbk 1 hs61 [] rfl trivial ?_
   refine WL.nil ?_
   refine WC.seq (fun K62 hK62 => ?_)
   refine WC.rr tbk hs61 [] rfl trivial ?_
   refine WC.condF rfl (by first | (simp; done) | (simp; omega) | (simp [hd11, hd16, hd24, hd32, hd46]; done) | (simp [hd11, hd16, hd24, hd32, hd46]; omega) | (simp only [endAct, endGrid, endScr, endTerm, endVp]; simp; omega)) ?_
   refine WC.skip ?_
   refine hK62 _ _ ?_
   refine WC.seq (fun K64 hK64 => ?_)
   refine WC.rr tbk hs61 [] rfl trivial ?_
   refine WC.condF rfl (by first | (simp; done) | (simp; omega) | (simp [hd11, hd16, hd24, hd32, hd46]; done) | (simp [hd11, hd16, hd24, hd32, hd46]; omega) | (simp only [endAct, endGrid, endScr, endTerm, endVp]; simp; omega)) ?_
   refine WC.skip ?_
   refine hK64 _ _ ?_
   refine WC.sr ?_
   refine WL.run tbk 1 hs61 [3] rfl ⟨rfl, trivial⟩ ?_
   refine WL.call rfl rfl rfl (Run.call Tryz.call21 rfl rfl rfl) (c_laws_toScr aS _ (okScrR.st0 f_aS hs61)) ?_
   rintro _ whs66 ⟨r67, L1_68, rfl, hs66, ho69, hd70⟩
   try simp only [hd11, hd16, hd24, hd32, hd46] at hd70
   replace hs66 := hs61.callF hs66
   refine ⟨_, rfl, ?_⟩
   replace hs66 := St.back [_, _, _, _] hs66
   refine WL.run tbk 1 hs66 [] rfl trivial ?_
   refine WL.call rfl rfl rfl (Run.call Tryz.call22 rfl rfl rfl) (c_impl_ScrEsc r67 _ _ (ownScrR.ok (B := 549755813888) ho69 (fun p_ hp_ => (hs66.own p_ (List.mem_append_right [_, _, _, _] (List.mem_append_left _ hp_))).1) (by rw [hd70]; assumption)) ?_) ?_
   · first | (first | assumption | rfl | omega) | (first | assumption | omega | (simp only [hd11, hd16, hd24, hd32, hd46, hd70, endAct, endGrid, endScr, endTerm, endVp]; first | done | assumption | omega))
   rintro _ whs71 ⟨r72, L1_73, rfl, hs71, ho74, hd75⟩
   try simp only [hd11, hd16, hd24, hd32, hd46, hd70] at hd75
   replace hs71 := hs66.callF hs71
   refine ⟨_, rfl, ?_⟩
   replace hs71 := St.back [_, _, _, _] hs71
   refine WL.al hs71 Tryz.zeroValue33 rfl rfl (fun b76 _ hs77 => ?_)
   refine WL.st tbk hs77 0 rfl rfl (fun _ hs78 => ?_)
   refine WL.nil ?_
   refine WC.seq (fun K79 hK79 => ?_)
   refine WC.sr ?_
   refine WL.run tbk 2 hs78 [0, 3] rfl ⟨rfl, rfl, trivial⟩ ?_
   refine WL.call rfl rfl rfl (Run.call Tryz.call23 rfl rfl rfl) (c_laws_eqScr r72 r13 _ (ownScrR.ok (B := 549755813888) ho74 (fun p_ hp_ => (hs78.own p_ (List.mem_append_right [_, _, _, _, _] (List.mem_append_left _ hp_))).1) (by rw [hd75]; assumption)) (ownScrR.ok (B := 549755813888) ho15 (fun p_ hp_ => (hs78.own p_ (List.mem_append_right [_, _, _, _, _] (List.mem_append_right _ (List.mem_append_right _ (List.mem_append_right _ (List.mem_append_right _ (List.mem_append_right _ (List.mem_append_left _ hp_)))))))).1) (by rw [hd16]; assumption)) ?_) ?_
   · first | (first | assumption | rfl | omega) | (first | assumption | omega | (simp only [hd11, hd16, hd24, hd32, hd46, hd70, hd75, endAct, endGrid, endScr, endTerm, endVp]; first | done | assumption | omega))
   rintro _ whs80 ⟨rfl, hs80⟩
   replace hs80 := hs78.call0 hs80
   refine ⟨_, rfl, ?_⟩
   refine WL.run tbk 1 hs80 [] rfl trivial ?_
   refine WL.nil ?_
   refine WC.condF rfl (by first | (simp; done) | (simp; omega) | (simp [hd11, hd16, hd24, hd32, hd46, hd70, hd75]; done) | (simp [hd11, hd16, hd24, hd32, hd46, hd70, hd75]; omega) | (simp only [endAct, endGrid, endScr, endTerm, endVp]; simp; omega)) ?_
   refine WC.skip ?_
   refine hK79 _ _ ?_
   refine WC.rr tbk hs80 [] rfl trivial ?_
   refine WC.sr ?_
   refine WL.run tbk 2 hs80 [1] rfl ⟨rfl, trivial⟩ ?_
   refine WL.call rfl rfl rfl (Run.call Tryz.call25 rfl rfl rfl) (c_laws_heldScr _ _ _ (ownScrR.ok (B := 549755813888) ho60 (fun p_ hp_ => (hs80.own p_ (List.mem_append_right [_, _, _, _, _] (List.mem_append_right _ (List.mem_append_right _ (List.mem_append_left _ hp_))))).1) (markScr_sm (by rw [hd32]; assumption))) ?_ ?_) ?_
   · first | (first | assumption | omega) | (first | assumption | omega | (simp only [hd11, hd16, hd24, hd32, hd46, hd70, hd75, endAct, endGrid, endScr, endTerm, endVp]; first | done | assumption | omega))
   · first | (first | assumption | omega | (simp only [endGrid, endScr]; omega)) | (first | assumption | omega | (simp only [hd11, hd16, hd24, hd32, hd46, hd70, hd75, endAct, endGrid, endScr, endTerm, endVp]; first | done | assumption | omega))
   rintro _ whs82 ⟨rfl, hs82⟩
   replace hs82 := hs80.call0 hs82
   refine ⟨_, rfl, ?_⟩
   refine WL.run tbk 1 hs82 [] rfl trivial ?_
   refine WL.nil ?_
   refine WC.seq (fun K83 hK83 => ?_)
   refine WC.rr tbk hs82 [] rfl trivial ?_
   refine WC.condF rfl (by first | (simp; done) | (simp; omega) | (simp [hd11, hd16, hd24, hd32, hd46, hd70, hd75]; done) | (simp [hd11, hd16, hd24, hd32, hd46, hd70, hd75]; omega) | (simp only [endAct, endGrid, endScr, endTerm, endVp]; simp; omega)) ?_
   refine WC.skip ?_
   refine hK83 _ _ ?_
   refine WC.seq (fun K85 hK85 => ?_)
   refine WC.rr tbk hs82 [] rfl trivial ?_
   refine WC.condF rfl (by first | (simp; done) | (simp; omega) | (simp [hd11, hd16, hd24, hd32, hd46, hd70, hd75]; done) | (simp [hd11, hd16, hd24, hd32, hd46, hd70, hd75]; omega) | (simp only [endAct, endGrid, endScr, endTerm, endVp]; simp; omega)) ?_
   refine WC.skip ?_
   refine hK85 _ _ ?_
   refine WC.rr tbk hs82 [] rfl trivial ?_
   refine WC.ret ?_
   refine retV1 rfl (resV.tmp rfl) ?_
   refine ⟨congrArg Ending.returned ?_, hs82.nil⟩
   rfl
end Go.Proofs.YtjmegoiclgancaaGreat
namespace Go.Proofs.YtjmegoiclgancaaGreat
open Go Go.RowKit Go.ChangeShapes Go.WideShapes Go.ChangeAt Go.Deep
set_option linter.unusedVariables false
set_option linter.unusedSimpArgs false
theorem list_succ {n : Nat} {l : List Value} (h : l.length = n + 1) : ∃ c r, l = c :: r ∧ r.length = n := by
  cases l with
  | nil => simp at h
  | cons c r => exact ⟨c, r, rfl, by simpa using h⟩
theorem list_zero {l : List Value} (h : l.length = 0) : l = [] := List.eq_nil_of_length_eq_zero h
section
variable {H : Type} {enc : TypeId × Value → H} {P : Program} {w : World} {base : Nat} {spare : Nat → Bool} {held : Bool} {fuel : Nat} {t e : TypeId} {cs : List Value} {x : DataW H × List MemPlace}
theorem trod_flds {fs : Array Field} (ht : P.underlying t = some (.struct fs)) (h : DataW.trod enc P w base spare held fuel t cs = some x) :
    cs.length = P.cellsOf t ∧ ∃ n, ∀ (i : Nat) (f : Field), fs.toList[i]? = some f → ∃ y, DataW.trod enc P w base spare held n f.type ((cs.drop f.offset).take (P.cellsOf f.type)) = some y := by
  obtain ⟨xs, n, _, _, hl, hlen, hg⟩ := DataW.trod_struct ht h
  refine ⟨hl, n, fun i f hf => ?_⟩
  have hf' : fs[i]? = some f := by simpa using hf
  have hi : i < xs.length := by rw [hlen]; exact (Array.getElem?_eq_some_iff.1 hf').1
  exact ⟨xs[i], (hg i f hf').trans (List.getElem?_eq_getElem hi)⟩
theorem open_i64 (ht : P.underlying t = some (.int .i64)) (h : DataW.trod enc P w base spare held fuel t cs = some x) : ∃ n, cs = [i64 n] ∧ In64 n := by
  obtain ⟨n, rfl, _, hw⟩ := DataW.trod_int ht h
  refine ⟨n, rfl, ?_⟩
  simp [Lit.wf, IntKind.min, IntKind.max, IntKind.signed, IntKind.bits] at hw
  exact hw
theorem open_bool' (ht : P.underlying t = some .bool) (h : DataW.trod enc P w base spare held fuel t cs = some x) : ∃ b, cs = [.bool b] := by
  obtain ⟨b, rfl, _⟩ := DataW.trod_bool ht h
  exact ⟨b, rfl⟩
theorem open_SlF {α : Type} {F : Enc α} {good : α → Prop} (ht : P.underlying t = some (.slice e)) (hc : P.cellsOf e = F.sz)
    (hE : ∀ n cs' y, DataW.trod enc P w base spare held n e cs' = some y → ∃ d, cs' = F.enc d ∧ good d) (h : DataW.trod enc P w base spare held fuel t cs = some x) :
    ∃ A n c xs, cs = [.slice A n c] ∧ SlF F w A n xs ∧ n ≤ 9223372036854775807 ∧ ∀ d, d ∈ xs → good d := by
  rcases open_slice ht h with ⟨rfl, _⟩ | ⟨a, l, c, m, n, D, Pl, rfl, _, hl, hm, hmm, _, hx⟩
  · exact ⟨none, 0, 0, [], rfl, ⟨rfl, SlR.nil _ _ _⟩, by omega, fun z h => by cases h⟩
  · have hlm : l ≤ m := by rw [hmm]; split <;> omega
    have : Inhabited α := ⟨F.dflt⟩
    have each : ∀ i, i < l → ∃ d : α, good d ∧ ∀ r, r < F.sz → w.cell? (a.add (i * F.sz + r)) = (F.enc d)[r]? := by
      intro i hi
      obtain ⟨cs', h1, h2⟩ := hx i (by omega)
      obtain ⟨d, rfl, hg⟩ := hE _ _ _ h2
      obtain ⟨_, _, h3⟩ := World.cells?_some h1
      refine ⟨d, hg, fun r hr => ?_⟩
      have := h3 r (by rw [hc]; exact hr)
      rw [← this, hc]
      congr 1
      rw [Addr.add_add']
    obtain ⟨d, hd⟩ := choose_lt each
    have hlen : ((List.range l).map d).length = l := by simp
    refine ⟨some a, l, c, (List.range l).map d, rfl, ⟨hlen, ⟨by rw [rows_len, hlen], fun _ => rfl, fun j v hv => ?_⟩⟩, by simp only [maxLen] at hm; omega, fun z hz => ?_⟩
    · have hj := (List.getElem?_eq_some_iff.1 hv).1
      rw [rows_len, hlen] at hj
      have hp := F.pos
      have hi : j / F.sz < l := Nat.div_lt_of_lt_mul (by rw [Nat.mul_comm]; exact hj)
      have hr : j % F.sz < F.sz := Nat.mod_lt _ hp
      have ej : j / F.sz * F.sz + j % F.sz = j := by rw [Nat.mul_comm]; exact Nat.div_add_mod _ _
      have e1 := (hd (j / F.sz) hi).2 (j % F.sz) hr
      rw [ej] at e1
      show w.cell? (a.add j) = some v
      rw [e1, ← hv]
      have e2 := rows_get (F := F) (xs := (List.range l).map d) (k := j / F.sz) (by rw [hlen]; exact hi) hr
      rw [ej] at e2
      rw [e2]
      have e3 : gat F ((List.range l).map d) (j / F.sz) = d (j / F.sz) := by
        have := gat_get (F := F) (xs := (List.range l).map d) (k := j / F.sz) (by rw [hlen]; exact hi)
        rw [List.getElem?_map, List.getElem?_range hi] at this
        exact (Option.some.inj this).symm
      rw [e3]
    · obtain ⟨i, hi, rfl⟩ := List.mem_map.1 hz
      exact (hd i (by simpa using hi)).1
theorem open_e64 (ht : P.underlying t = some (.int .i64)) (h : DataW.trod enc P w base spare held fuel t cs = some x) : ∃ n : Int, cs = encI.enc n ∧ In64 n := open_i64 ht h
theorem open_SlE {α : Type} {F : Enc α} {good : α → Prop} (ht : P.underlying t = some (.slice e)) (hc : P.cellsOf e = F.sz)
    (hE : ∀ n cs' y, DataW.trod enc P w base spare held n e cs' = some y → ∃ d, cs' = F.enc d ∧ good d) (h : DataW.trod enc P w base spare held fuel t cs = some x) :
    ∃ A n c xs, cs = [.slice A n c] ∧ SlF F w A n xs ∧ n ≤ c ∧ n ≤ 9223372036854775807 ∧ ∀ d, d ∈ xs → good d := by
  obtain ⟨A, n, c, xs, e1, f, hn, hg⟩ := open_SlF ht hc hE h
  refine ⟨A, n, c, xs, e1, f, ?_, hn, hg⟩
  rcases open_slice ht h with ⟨e2, _⟩ | ⟨a, l, c', m, n', D, Pl, e2, _, hl, _⟩
  · rw [e1] at e2
    cases e2
    exact Nat.le_refl _
  · rw [e1] at e2
    cases e2
    exact hl
end
end Go.Proofs.YtjmegoiclgancaaGreat
namespace Go.Proofs.YtjmegoiclgancaaGreat
open Go Go.RowKit
set_option linter.unusedVariables false
set_option linter.unusedSimpArgs false
theorem cells_3 : Tryz.prog.cellsOf 3 = 1 := by kernel_rfl
theorem cells_4 : Tryz.prog.cellsOf 4 = 1 := by kernel_rfl
theorem cells_47 : Tryz.prog.cellsOf 47 = 5 := by kernel_rfl
def goodAttr (d : AttrD) : Prop := In64 d.Fg ∧ In64 d.Bg
theorem open_Attr {H : Type} {enc : TypeId × Value → H} {w : World} {base : Nat} {spare : Nat → Bool} {held : Bool} {fuel : Nat} {cs : List Value} {x : DataW H × List MemPlace} (h : DataW.trod enc Tryz.prog w base spare held fuel 47 cs = some x) : ∃ d, cs = encAttr.enc d ∧ goodAttr d := by
  obtain ⟨hl, n, hg⟩ := trod_flds Tryz.underlying47 h
  rw [cells_47] at hl
  obtain ⟨c0, l0, rfl, z0⟩ := list_succ hl
  obtain ⟨c1, l1, rfl, z1⟩ := list_succ z0
  obtain ⟨c2, l2, rfl, z2⟩ := list_succ z1
  obtain ⟨c3, l3, rfl, z3⟩ := list_succ z2
  obtain ⟨c4, l4, rfl, z4⟩ := list_succ z3
  obtain rfl := list_zero z4
  obtain ⟨y0, g0⟩ := hg 0 _ rfl
  rw [show Tryz.prog.cellsOf _ = 1 from cells_3] at g0
  replace g0 : DataW.trod _ _ _ _ _ _ _ 3 [c0] = _ := g0
  obtain ⟨x0, e0, w0⟩ := open_i64 Tryz.underlying3 g0
  obtain ⟨y1, g1⟩ := hg 1 _ rfl
  rw [show Tryz.prog.cellsOf _ = 1 from cells_3] at g1
  replace g1 : DataW.trod _ _ _ _ _ _ _ 3 [c1] = _ := g1
  obtain ⟨x1, e1, w1⟩ := open_i64 Tryz.underlying3 g1
  obtain ⟨y2, g2⟩ := hg 2 _ rfl
  rw [show Tryz.prog.cellsOf _ = 1 from cells_4] at g2
  replace g2 : DataW.trod _ _ _ _ _ _ _ 4 [c2] = _ := g2
  obtain ⟨x2, e2⟩ := open_bool' Tryz.underlying4 g2
  obtain ⟨y3, g3⟩ := hg 3 _ rfl
  rw [show Tryz.prog.cellsOf _ = 1 from cells_4] at g3
  replace g3 : DataW.trod _ _ _ _ _ _ _ 4 [c3] = _ := g3
  obtain ⟨x3, e3⟩ := open_bool' Tryz.underlying4 g3
  obtain ⟨y4, g4⟩ := hg 4 _ rfl
  rw [show Tryz.prog.cellsOf _ = 1 from cells_4] at g4
  replace g4 : DataW.trod _ _ _ _ _ _ _ 4 [c4] = _ := g4
  obtain ⟨x4, e4⟩ := open_bool' Tryz.underlying4 g4
  cases e0
  cases e1
  cases e2
  cases e3
  cases e4
  exact ⟨⟨x0, x1, x2, x3, x4⟩, rfl, ⟨w0, w1⟩⟩
theorem cells_216 : Tryz.prog.cellsOf 216 = 6 := by kernel_rfl
def goodCell (d : CellD) : Prop := In64 d.R ∧ goodAttr d.A
theorem open_Cell {H : Type} {enc : TypeId × Value → H} {w : World} {base : Nat} {spare : Nat → Bool} {held : Bool} {fuel : Nat} {cs : List Value} {x : DataW H × List MemPlace} (h : DataW.trod enc Tryz.prog w base spare held fuel 216 cs = some x) : ∃ d, cs = encCell.enc d ∧ goodCell d := by
  obtain ⟨hl, n, hg⟩ := trod_flds Tryz.underlying216 h
  rw [cells_216] at hl
  obtain ⟨c0, l0, rfl, z0⟩ := list_succ hl
  obtain ⟨c1, l1, rfl, z1⟩ := list_succ z0
  obtain ⟨c2, l2, rfl, z2⟩ := list_succ z1
  obtain ⟨c3, l3, rfl, z3⟩ := list_succ z2
  obtain ⟨c4, l4, rfl, z4⟩ := list_succ z3
  obtain ⟨c5, l5, rfl, z5⟩ := list_succ z4
  obtain rfl := list_zero z5
  obtain ⟨y0, g0⟩ := hg 0 _ rfl
  rw [show Tryz.prog.cellsOf _ = 1 from cells_3] at g0
  replace g0 : DataW.trod _ _ _ _ _ _ _ 3 [c0] = _ := g0
  obtain ⟨x0, e0, w0⟩ := open_i64 Tryz.underlying3 g0
  obtain ⟨y1, g1⟩ := hg 1 _ rfl
  rw [show Tryz.prog.cellsOf _ = 5 from cells_47] at g1
  replace g1 : DataW.trod _ _ _ _ _ _ _ 47 [c1, c2, c3, c4, c5] = _ := g1
  obtain ⟨x1, e1, w1⟩ := open_Attr g1
  replace e1 : [c1, c2, c3, c4, c5] = [i64 x1.Fg, i64 x1.Bg, .bool x1.Bold, .bool x1.Under, .bool x1.Turn] := e1
  cases e0
  cases e1
  exact ⟨⟨x0, x1⟩, rfl, ⟨w0, w1⟩⟩
theorem cells_44 : Tryz.prog.cellsOf 44 = 1 := by kernel_rfl
theorem cells_46 : Tryz.prog.cellsOf 46 = 3 := by kernel_rfl
theorem open_GridR {H : Type} {enc : TypeId × Value → H} {w : World} {base : Nat} {spare : Nat → Bool} {held : Bool} {fuel : Nat} {cs : List Value} {x : DataW H × List MemPlace} (h : DataW.trod enc Tryz.prog w base spare held fuel 46 cs = some x) : ∃ d, cs = encGridR.enc d ∧ okGridR 9223372036854775807 w d := by
  obtain ⟨hl, n, hg⟩ := trod_flds Tryz.underlying46 h
  rw [cells_46] at hl
  obtain ⟨c0, l0, rfl, z0⟩ := list_succ hl
  obtain ⟨c1, l1, rfl, z1⟩ := list_succ z0
  obtain ⟨c2, l2, rfl, z2⟩ := list_succ z1
  obtain rfl := list_zero z2
  obtain ⟨y0, g0⟩ := hg 0 _ rfl
  rw [show Tryz.prog.cellsOf _ = 1 from cells_3] at g0
  replace g0 : DataW.trod _ _ _ _ _ _ _ 3 [c0] = _ := g0
  obtain ⟨x0, e0, w0⟩ := open_i64 Tryz.underlying3 g0
  obtain ⟨y1, g1⟩ := hg 1 _ rfl
  rw [show Tryz.prog.cellsOf _ = 1 from cells_3] at g1
  replace g1 : DataW.trod _ _ _ _ _ _ _ 3 [c1] = _ := g1
  obtain ⟨x1, e1, w1⟩ := open_i64 Tryz.underlying3 g1
  obtain ⟨y2, g2⟩ := hg 2 _ rfl
  rw [show Tryz.prog.cellsOf _ = 1 from cells_44] at g2
  replace g2 : DataW.trod _ _ _ _ _ _ _ 44 [c2] = _ := g2
  obtain ⟨A2, n2, k2, x2, e2, f2, hc2, hn2, hg2⟩ := open_SlE (F := encCell) (good := goodCell) Tryz.underlying44 cells_216 (fun _ _ _ h_ => open_Cell h_) g2
  cases e0
  cases e1
  cases e2
  exact ⟨⟨x0, x1, ⟨A2, n2, k2, x2⟩⟩, rfl, ⟨f2, hc2, hn2⟩⟩
theorem cells_172 : Tryz.prog.cellsOf 172 = 1 := by kernel_rfl
theorem open_RowR {H : Type} {enc : TypeId × Value → H} {w : World} {base : Nat} {spare : Nat → Bool} {held : Bool} {fuel : Nat} {cs : List Value} {x : DataW H × List MemPlace} (h : DataW.trod enc Tryz.prog w base spare held fuel 172 cs = some x) : ∃ d, cs = encRowR.enc d ∧ okRowR 9223372036854775807 w d := by
  obtain ⟨hl, n, hg⟩ := trod_flds Tryz.underlying172 h
  rw [cells_172] at hl
  obtain ⟨c0, l0, rfl, z0⟩ := list_succ hl
  obtain rfl := list_zero z0
  obtain ⟨y0, g0⟩ := hg 0 _ rfl
  rw [show Tryz.prog.cellsOf _ = 1 from cells_44] at g0
  replace g0 : DataW.trod _ _ _ _ _ _ _ 44 [c0] = _ := g0
  obtain ⟨A0, n0, k0, x0, e0, f0, hc0, hn0, hg0⟩ := open_SlE (F := encCell) (good := goodCell) Tryz.underlying44 cells_216 (fun _ _ _ h_ => open_Cell h_) g0
  cases e0
  exact ⟨⟨⟨A0, n0, k0, x0⟩⟩, rfl, ⟨f0, hc0, hn0⟩⟩
theorem cells_23 : Tryz.prog.cellsOf 23 = 1 := by kernel_rfl
theorem cells_48 : Tryz.prog.cellsOf 48 = 1 := by kernel_rfl
theorem cells_50 : Tryz.prog.cellsOf 50 = 31 := by kernel_rfl
theorem open_ScrR {H : Type} {enc : TypeId × Value → H} {w : World} {base : Nat} {spare : Nat → Bool} {held : Bool} {fuel : Nat} {cs : List Value} {x : DataW H × List MemPlace} (h : DataW.trod enc Tryz.prog w base spare held fuel 50 cs = some x) : ∃ d, cs = encScrR.enc d ∧ okScrR 9223372036854775807 w d := by
  obtain ⟨hl, n, hg⟩ := trod_flds Tryz.underlying50 h
  rw [cells_50] at hl
  obtain ⟨c0, l0, rfl, z0⟩ := list_succ hl
  obtain ⟨c1, l1, rfl, z1⟩ := list_succ z0
  obtain ⟨c2, l2, rfl, z2⟩ := list_succ z1
  obtain ⟨c3, l3, rfl, z3⟩ := list_succ z2
  obtain ⟨c4, l4, rfl, z4⟩ := list_succ z3
  obtain ⟨c5, l5, rfl, z5⟩ := list_succ z4
  obtain ⟨c6, l6, rfl, z6⟩ := list_succ z5
  obtain ⟨c7, l7, rfl, z7⟩ := list_succ z6
  obtain ⟨c8, l8, rfl, z8⟩ := list_succ z7
  obtain ⟨c9, l9, rfl, z9⟩ := list_succ z8
  obtain ⟨c10, l10, rfl, z10⟩ := list_succ z9
  obtain ⟨c11, l11, rfl, z11⟩ := list_succ z10
  obtain ⟨c12, l12, rfl, z12⟩ := list_succ z11
  obtain ⟨c13, l13, rfl, z13⟩ := list_succ z12
  obtain ⟨c14, l14, rfl, z14⟩ := list_succ z13
  obtain ⟨c15, l15, rfl, z15⟩ := list_succ z14
  obtain ⟨c16, l16, rfl, z16⟩ := list_succ z15
  obtain ⟨c17, l17, rfl, z17⟩ := list_succ z16
  obtain ⟨c18, l18, rfl, z18⟩ := list_succ z17
  obtain ⟨c19, l19, rfl, z19⟩ := list_succ z18
  obtain ⟨c20, l20, rfl, z20⟩ := list_succ z19
  obtain ⟨c21, l21, rfl, z21⟩ := list_succ z20
  obtain ⟨c22, l22, rfl, z22⟩ := list_succ z21
  obtain ⟨c23, l23, rfl, z23⟩ := list_succ z22
  obtain ⟨c24, l24, rfl, z24⟩ := list_succ z23
  obtain ⟨c25, l25, rfl, z25⟩ := list_succ z24
  obtain ⟨c26, l26, rfl, z26⟩ := list_succ z25
  obtain ⟨c27, l27, rfl, z27⟩ := list_succ z26
  obtain ⟨c28, l28, rfl, z28⟩ := list_succ z27
  obtain ⟨c29, l29, rfl, z29⟩ := list_succ z28
  obtain ⟨c30, l30, rfl, z30⟩ := list_succ z29
  obtain rfl := list_zero z30
  obtain ⟨y0, g0⟩ := hg 0 _ rfl
  rw [show Tryz.prog.cellsOf _ = 1 from cells_3] at g0
  replace g0 : DataW.trod _ _ _ _ _ _ _ 3 [c0] = _ := g0
  obtain ⟨x0, e0, w0⟩ := open_i64 Tryz.underlying3 g0
  obtain ⟨y1, g1⟩ := hg 1 _ rfl
  rw [show Tryz.prog.cellsOf _ = 1 from cells_3] at g1
  replace g1 : DataW.trod _ _ _ _ _ _ _ 3 [c1] = _ := g1
  obtain ⟨x1, e1, w1⟩ := open_i64 Tryz.underlying3 g1
  obtain ⟨y2, g2⟩ := hg 2 _ rfl
  rw [show Tryz.prog.cellsOf _ = 3 from cells_46] at g2
  replace g2 : DataW.trod _ _ _ _ _ _ _ 46 [c2, c3, c4] = _ := g2
  obtain ⟨x2, e2, o2⟩ := open_GridR g2
  replace e2 : [c2, c3, c4] = [i64 x2.W, i64 x2.H, .slice x2.Cells.A x2.Cells.n x2.Cells.c] := e2
  obtain ⟨y3, g3⟩ := hg 3 _ rfl
  rw [show Tryz.prog.cellsOf _ = 3 from cells_46] at g3
  replace g3 : DataW.trod _ _ _ _ _ _ _ 46 [c5, c6, c7] = _ := g3
  obtain ⟨x3, e3, o3⟩ := open_GridR g3
  replace e3 : [c5, c6, c7] = [i64 x3.W, i64 x3.H, .slice x3.Cells.A x3.Cells.n x3.Cells.c] := e3
  obtain ⟨y4, g4⟩ := hg 4 _ rfl
  rw [show Tryz.prog.cellsOf _ = 1 from cells_4] at g4
  replace g4 : DataW.trod _ _ _ _ _ _ _ 4 [c8] = _ := g4
  obtain ⟨x4, e4⟩ := open_bool' Tryz.underlying4 g4
  obtain ⟨y5, g5⟩ := hg 5 _ rfl
  rw [show Tryz.prog.cellsOf _ = 1 from cells_3] at g5
  replace g5 : DataW.trod _ _ _ _ _ _ _ 3 [c9] = _ := g5
  obtain ⟨x5, e5, w5⟩ := open_i64 Tryz.underlying3 g5
  obtain ⟨y6, g6⟩ := hg 6 _ rfl
  rw [show Tryz.prog.cellsOf _ = 1 from cells_3] at g6
  replace g6 : DataW.trod _ _ _ _ _ _ _ 3 [c10] = _ := g6
  obtain ⟨x6, e6, w6⟩ := open_i64 Tryz.underlying3 g6
  obtain ⟨y7, g7⟩ := hg 7 _ rfl
  rw [show Tryz.prog.cellsOf _ = 1 from cells_4] at g7
  replace g7 : DataW.trod _ _ _ _ _ _ _ 4 [c11] = _ := g7
  obtain ⟨x7, e7⟩ := open_bool' Tryz.underlying4 g7
  obtain ⟨y8, g8⟩ := hg 8 _ rfl
  rw [show Tryz.prog.cellsOf _ = 5 from cells_47] at g8
  replace g8 : DataW.trod _ _ _ _ _ _ _ 47 [c12, c13, c14, c15, c16] = _ := g8
  obtain ⟨x8, e8, w8⟩ := open_Attr g8
  replace e8 : [c12, c13, c14, c15, c16] = [i64 x8.Fg, i64 x8.Bg, .bool x8.Bold, .bool x8.Under, .bool x8.Turn] := e8
  obtain ⟨y9, g9⟩ := hg 9 _ rfl
  rw [show Tryz.prog.cellsOf _ = 1 from cells_3] at g9
  replace g9 : DataW.trod _ _ _ _ _ _ _ 3 [c17] = _ := g9
  obtain ⟨x9, e9, w9⟩ := open_i64 Tryz.underlying3 g9
  obtain ⟨y10, g10⟩ := hg 10 _ rfl
  rw [show Tryz.prog.cellsOf _ = 1 from cells_3] at g10
  replace g10 : DataW.trod _ _ _ _ _ _ _ 3 [c18] = _ := g10
  obtain ⟨x10, e10, w10⟩ := open_i64 Tryz.underlying3 g10
  obtain ⟨y11, g11⟩ := hg 11 _ rfl
  rw [show Tryz.prog.cellsOf _ = 1 from cells_4] at g11
  replace g11 : DataW.trod _ _ _ _ _ _ _ 4 [c19] = _ := g11
  obtain ⟨x11, e11⟩ := open_bool' Tryz.underlying4 g11
  obtain ⟨y12, g12⟩ := hg 12 _ rfl
  rw [show Tryz.prog.cellsOf _ = 1 from cells_4] at g12
  replace g12 : DataW.trod _ _ _ _ _ _ _ 4 [c20] = _ := g12
  obtain ⟨x12, e12⟩ := open_bool' Tryz.underlying4 g12
  obtain ⟨y13, g13⟩ := hg 13 _ rfl
  rw [show Tryz.prog.cellsOf _ = 1 from cells_3] at g13
  replace g13 : DataW.trod _ _ _ _ _ _ _ 3 [c21] = _ := g13
  obtain ⟨x13, e13, w13⟩ := open_i64 Tryz.underlying3 g13
  obtain ⟨y14, g14⟩ := hg 14 _ rfl
  rw [show Tryz.prog.cellsOf _ = 1 from cells_3] at g14
  replace g14 : DataW.trod _ _ _ _ _ _ _ 3 [c22] = _ := g14
  obtain ⟨x14, e14, w14⟩ := open_i64 Tryz.underlying3 g14
  obtain ⟨y15, g15⟩ := hg 15 _ rfl
  rw [show Tryz.prog.cellsOf _ = 5 from cells_47] at g15
  replace g15 : DataW.trod _ _ _ _ _ _ _ 47 [c23, c24, c25, c26, c27] = _ := g15
  obtain ⟨x15, e15, w15⟩ := open_Attr g15
  replace e15 : [c23, c24, c25, c26, c27] = [i64 x15.Fg, i64 x15.Bg, .bool x15.Bold, .bool x15.Under, .bool x15.Turn] := e15
  obtain ⟨y16, g16⟩ := hg 16 _ rfl
  rw [show Tryz.prog.cellsOf _ = 1 from cells_23] at g16
  replace g16 : DataW.trod _ _ _ _ _ _ _ 23 [c28] = _ := g16
  obtain ⟨A16, n16, k16, x16, e16, f16, hc16, hn16, hg16⟩ := open_SlE (F := encI) (good := fun n => In64 n) Tryz.underlying23 cells_3 (fun _ _ _ h_ => open_e64 Tryz.underlying3 h_) g16
  obtain ⟨y17, g17⟩ := hg 17 _ rfl
  rw [show Tryz.prog.cellsOf _ = 1 from cells_3] at g17
  replace g17 : DataW.trod _ _ _ _ _ _ _ 3 [c29] = _ := g17
  obtain ⟨x17, e17, w17⟩ := open_i64 Tryz.underlying3 g17
  obtain ⟨y18, g18⟩ := hg 18 _ rfl
  rw [show Tryz.prog.cellsOf _ = 1 from cells_48] at g18
  replace g18 : DataW.trod _ _ _ _ _ _ _ 48 [c30] = _ := g18
  obtain ⟨A18, n18, k18, x18, e18, f18, hc18, hn18, hg18⟩ := open_SlE (F := encRowR) (good := fun d => okRowR 9223372036854775807 w d) Tryz.underlying48 cells_172 (fun _ _ _ h_ => open_RowR h_) g18
  cases e0
  cases e1
  cases e2
  cases e3
  cases e4
  cases e5
  cases e6
  cases e7
  cases e8
  cases e9
  cases e10
  cases e11
  cases e12
  cases e13
  cases e14
  cases e15
  cases e16
  cases e17
  cases e18
  exact ⟨⟨x0, x1, x2, x3, x4, x5, x6, x7, x8, x9, x10, x11, x12, x13, x14, x15, ⟨A16, n16, k16, x16⟩, x17, ⟨A18, n18, k18, x18⟩⟩, rfl, ⟨o2, o3, f16, hc16, hn16, ⟨f18, hg18⟩, hc18, hn18⟩⟩
namespace fnExactScrEsc
open Go.ChangeShapes Go.WideShapes Go.ChangeAt Go.RowKit
theorem own : ownKnob Tryz.prog.godebug = none := by kernel_rfl
theorem laidOut : laidOutB Tryz.prog = true := by kernel_rfl
set_option maxRecDepth 100000 in
set_option maxHeartbeats 1000000 in
theorem lifted (os : Os) (started : os.Started) (H : Type) (enc : TypeId × Value → H) :
    ReturnsInHanded {} Tryz.checked os 4 .any (Rows.fnExactScrEscSpec.pre6 enc Tryz.prog Tryz.f4 Rows.fnExactScrEscRow.domain false) (Rows.fnExactScrEscSpec.post enc Tryz.prog Tryz.f4 false true false false) := by
  refine returnsInHanded_of_change (C := Tryz.checked) own started (by kernel_rfl) Tryz.func4
    (ChangeSpec.witness6 (enc := enc) (C := Tryz.checked) false ⟨#[], #[(Value.agg #[Value.int IntKind.i64 0, Value.int IntKind.i64 0, Value.int IntKind.i64 0, Value.int IntKind.i64 0, Value.slice none 0 0, Value.int IntKind.i64 0, Value.int IntKind.i64 0, Value.slice none 0 0, Value.bool false, Value.int IntKind.i64 0, Value.int IntKind.i64 0, Value.bool false, Value.int IntKind.i64 0, Value.int IntKind.i64 0, Value.bool false, Value.bool false, Value.bool false, Value.int IntKind.i64 0, Value.int IntKind.i64 0, Value.bool false, Value.bool false, Value.int IntKind.i64 0, Value.int IntKind.i64 0, Value.int IntKind.i64 0, Value.int IntKind.i64 0, Value.bool false, Value.bool false, Value.bool false, Value.slice none 0 0, Value.int IntKind.i64 0, Value.slice none 0 0]), .int .i64 0], []⟩ 8 (by kernel_rfl) (by kernel_rfl) (by kernel_rfl) (by kernel_rfl)) ?_
  intro W base args ds gs before hval0 hW hcnd _
  have hval : ∀ (j : Nat) t v, Tryz.f4.params[j]? = some t → args[j]? = some v → Value.okWide Tryz.prog W .any base t v := hval0
  have hW' := hW
  obtain ⟨p, q, hA0, hV, rfl, hfz, hnd⟩ := hW
  have hA : DataW.TrodAll enc Tryz.prog W 0 (fun _ => true) true Tryz.f4.params.toList args.toList ds p := hA0
  rw [Tryz.params4] at hA hval
  obtain ⟨v0, vs0, d0, ds0, p0, q0, hargs, rfl, rfl, h0, r0⟩ := trodAll_cons hA
  obtain ⟨v1, vs1, d1, ds1, p1, q1, rfl, rfl, rfl, h1, r1⟩ := trodAll_cons r0
  obtain ⟨rfl, rfl, rfl⟩ := trodAll_nil r1
  obtain rfl : args = #[v0, v1] := by cases args; simp_all
  obtain ⟨rfl, rfl⟩ := trodVars_none hV
  have k0 := h0
  have lt0 : ∀ x ∈ p0, x.block < W.heap.size := by obtain ⟨m, hm⟩ := k0; exact DataW.trod_lt m _ _ _ hm
  have k1 := h1
  have lt1 : ∀ x ∈ p1, x.block < W.heap.size := by obtain ⟨m, hm⟩ := k1; exact DataW.trod_lt m _ _ _ hm
  obtain ⟨cs0, rfl, hsz0⟩ := okWide_struct Tryz.underlying50 (hval 0 50 v0 rfl rfl)
  obtain ⟨l0⟩ := cs0
  obtain ⟨fuel0, hf0⟩ := h0
  replace hf0 : DataW.trod _ _ _ _ _ _ _ 50 l0 = _ := hf0
  obtain ⟨aS, rfl, f_aS⟩ := open_ScrR hf0
  obtain ⟨q1, rfl⟩ := okWide_int Tryz.underlying3 (hval 1 3 v1 rfl rfl)
  obtain ⟨fuel1, hf1⟩ := h1
  replace hf1 : DataW.trod _ _ _ _ _ _ _ 3 [.int .i64 q1] = _ := hf1
  obtain ⟨aB, e1, w_aB⟩ := open_i64 Tryz.underlying3 hf1
  obtain rfl : aB = q1 := by cases e1; rfl
  clear hA0 hval0
  refine (c_laws_FnExactScrEsc aS aB W f_aS).mono fun e W' ⟨he, hst⟩ => ?_
  have bel := hst.toBelow
  subst he
  exact ⟨_, rfl, _, _, _, [], _, [], hW', trodAll_mk1 (shut_bool Tryz.underlying4 _), (trodAll_cons_mk (Below.trod laidOut (by kernel_rfl) (of_decide_eq_true (by kernel_rfl)) k0 bel lt0) (trodAll_cons_mk (Below.trod laidOut (by kernel_rfl) (of_decide_eq_true (by kernel_rfl)) k1 bel lt1) trodAll_mk0)), rfl, bel.frame _, fun h => by cases h⟩
theorem over : Rows.fnExactScrEscRow.holds Tryz.pinned (OpenSpec.ofChange Rows.fnExactScrEscSpec) :=
  OpenClaim.holds_of_wide 4 Tryz.f4 rfl rfl rfl rfl rfl rfl rfl ⟨rfl, rfl, rfl, rfl, rfl⟩ rfl rfl rfl rfl rfl (by kernel_rfl) Tryz.func4 (by kernel_rfl)
    (of_decide_eq_true (by kernel_rfl)) (by unfold Func.isWrapper; first | (rw [if_pos (by decide +kernel)]; kernel_rfl) | (rw [if_neg (by decide +kernel)]; exact ⟨rfl, rfl⟩))
    (fun os started H enc _ => lifted os started H enc)
end fnExactScrEsc
theorem fnExactScrEsc_holds : Rows.FnExactScrEscSaid := fnExactScrEsc.over
end Go.Proofs.YtjmegoiclgancaaGreat
