/-
  What the proof stands on, part 4.
-/
import Derived.Test.YthfhhldbglaieaaGreatKB3
namespace Go.Proofs.YthfhhldbglaieaaGreat
open Go Go.RowKit
set_option linter.unusedVariables false
set_option linter.unusedSimpArgs false
set_option maxHeartbeats 4000000 in
theorem k73_ (a : PaneR) (left : Int) (w : World) (f_a : okPaneR 9223372036854775807 w a) (h1 : 0 ≤ left) (h2 : left ≤ 1048576) :
    Calls Tryz.prog 98 #[.agg #[i64 a.Id, .string a.Cmd, .string a.Dir, i64 a.Life, i64 a.Code, i64 a.Pid, i64 a.Term.P.State, .bool a.Term.P.Mark, .slice a.Term.P.Args.A a.Term.P.Args.n a.Term.P.Args.c, .slice a.Term.P.Part.A a.Term.P.Part.n a.Term.P.Part.c, i64 a.Term.S.W, i64 a.Term.S.H, i64 a.Term.S.Main.W, i64 a.Term.S.Main.H, .slice a.Term.S.Main.Cells.A a.Term.S.Main.Cells.n a.Term.S.Main.Cells.c, i64 a.Term.S.Alt.W, i64 a.Term.S.Alt.H, .slice a.Term.S.Alt.Cells.A a.Term.S.Alt.Cells.n a.Term.S.Alt.Cells.c, .bool a.Term.S.OnAlt, i64 a.Term.S.X, i64 a.Term.S.Y, .bool a.Term.S.Wrap, i64 a.Term.S.A.Fg, i64 a.Term.S.A.Bg, .bool a.Term.S.A.Bold, .bool a.Term.S.A.Under, .bool a.Term.S.A.Turn, i64 a.Term.S.Top, i64 a.Term.S.Bot, .bool a.Term.S.NoWrap, .bool a.Term.S.Hide, i64 a.Term.S.SaveX, i64 a.Term.S.SaveY, i64 a.Term.S.SaveA.Fg, i64 a.Term.S.SaveA.Bg, .bool a.Term.S.SaveA.Bold, .bool a.Term.S.SaveA.Under, .bool a.Term.S.SaveA.Turn, .slice a.Term.S.Tabs.A a.Term.S.Tabs.n a.Term.S.Tabs.c, i64 a.Term.S.Limit, .slice a.Term.S.Back.A a.Term.S.Back.n a.Term.S.Back.c], i64 left] w fun e w' => e = .returned (.int .i64 (szR left (totPane a.dat))) ∧ St w [] [] w' := by
 have nz_a_Cmd := f_a.Cmd_z
 have nz_a_Dir := f_a.Dir_z
 have nb_a_Term_P_Args := f_a.Term.P.Args_n
 have nl_a_Term_P_Args := f_a.Term.P.Args.len
 have nb_a_Term_P_Part := f_a.Term.P.Part_n
 have nl_a_Term_P_Part := f_a.Term.P.Part.len
 have nb_a_Term_S_Main_Cells := f_a.Term.S.Main.Cells_n
 have nl_a_Term_S_Main_Cells := f_a.Term.S.Main.Cells.len
 have nb_a_Term_S_Alt_Cells := f_a.Term.S.Alt.Cells_n
 have nl_a_Term_S_Alt_Cells := f_a.Term.S.Alt.Cells.len
 have nb_a_Term_S_Tabs := f_a.Term.S.Tabs_n
 have nl_a_Term_S_Tabs := f_a.Term.S.Tabs.len
 have nb_a_Term_S_Back := f_a.Term.S.Back_n
 have nl_a_Term_S_Back := f_a.Term.S.Back.sl.len
 refine enter 26 Tryz.func98 rfl Tryz.ntmps98 rfl rfl ?_
 have hs1 := St.init w
 refine WC.sr (WL.bx hs1 rfl (fun b2 _ hs3 => WL.r 1 hs3 [] rfl (WL.nil (WC.r1 hs3 [0] rfl (WC.seq (fun K4 hK4 => WC.r1 hs3 [] rfl ?_))))))
 refine WC.cD rfl (fun qh5 => ?_) (fun qh5 => ?_)
 ·try have soh5 := szR_ok qh5 (by omega)
  try have sbh5 := szR_b qh5 (by omega) (by first | assumption | omega)
  try have snh5 := szR_no qh5
  refine WC.r1 hs3 [] rfl (WC.ret (tkR ?_))
  clear hK4
  refine rtv rfl rfl hs3 ?_
  simp only [totGrid, totPane, totScr, totTerm, totVp, GridR.dat, PaneR.dat, ScrR.dat, TermR.dat, VpR.dat] at *; first | (rw [szR_lt (by omega)]; done) | (refine congrArg (Value.int _) ?_; symm; refine (szR_le ?_).trans ?_ <;> omega) | rfl
 try have soh5 := szR_ok qh5 (by omega)
 try have sbh5 := szR_b qh5 (by omega) (by first | assumption | omega)
 try have snh5 := szR_no qh5
 refine WC.skip (hK4 _ _ (WC.r1 hs3 [0] rfl (WC.seq (fun K6 hK6 => WC.r1 hs3 [] rfl ?_))))
 refine WC.cD rfl (fun qh7 => ?_) (fun qh7 => ?_)
 ·try have soh7 := szR_ok qh7 (by omega)
  try have sbh7 := szR_b qh7 (by omega) (by first | assumption | omega)
  try have snh7 := szR_no qh7
  refine WC.r1 hs3 [] rfl (WC.ret (tkR ?_))
  clear hK6
  refine rtv rfl rfl hs3 ?_
  simp only [totGrid, totPane, totScr, totTerm, totVp, GridR.dat, PaneR.dat, ScrR.dat, TermR.dat, VpR.dat] at *; first | (rw [szR_lt (by omega)]; done) | (refine congrArg (Value.int _) ?_; symm; refine (szR_le ?_).trans ?_ <;> omega) | rfl
 try have soh7 := szR_ok qh7 (by omega)
 try have sbh7 := szR_b qh7 (by omega) (by first | assumption | omega)
 try have snh7 := szR_no qh7
 refine WC.skip (hK6 _ _ (WC.sr (WL.r 3 hs3 [0] rfl ?_)))
 refine WL.cl Tryz.call158 rfl (k33_ a.Term _ _ (okTermR.st0 f_a.Term hs3) ?_ ?_) ?_
 · first | assumption | omega
 · first | assumption | omega | exact szR_b (by assumption) (by omega) (by first | assumption | omega)
 rintro _ whs8 ⟨rfl, hs8⟩
 replace hs8 := hs3.call0 hs8
 refine ⟨_, rfl, WL.r 1 hs8 [] rfl (WL.nil (WC.seq (fun K9 hK9 => WC.r1 hs8 [] rfl ?_)))⟩
 refine WC.cD rfl (fun qh10 => ?_) (fun qh10 => ?_)
 ·try have soh10 := szR_ok qh10 (by omega)
  try have sbh10 := szR_b qh10 (by omega) (by first | assumption | omega)
  try have snh10 := szR_no qh10
  refine WC.r1 hs8 [] rfl (WC.ret (tkR ?_))
  clear hK9
  refine rtv rfl rfl hs8 ?_
  simp only [totGrid, totPane, totScr, totTerm, totVp, GridR.dat, PaneR.dat, ScrR.dat, TermR.dat, VpR.dat] at *; first | (rw [szR_lt (by omega)]; done) | (refine congrArg (Value.int _) ?_; symm; refine (szR_le ?_).trans ?_ <;> omega) | rfl
 try have soh10 := szR_ok qh10 (by omega)
 try have sbh10 := szR_b qh10 (by omega) (by first | assumption | omega)
 try have snh10 := szR_no qh10
 refine WC.skip (hK9 _ _ (WC.r1 hs8 [] rfl (WC.ret (rtv rfl rfl hs8 ?_))))
 simp only [totGrid, totPane, totScr, totTerm, totVp, GridR.dat, PaneR.dat, ScrR.dat, TermR.dat, VpR.dat] at *; first | (rw [szR_lt (by omega)]; done) | (refine congrArg (Value.int _) ?_; symm; refine (szR_le ?_).trans ?_ <;> omega) | rfl
set_option maxHeartbeats 4000000 in
theorem k74_ (a : PaneR) (w : World) (f_a : okPaneR 549755813888 w a) :
    Calls Tryz.prog 102 #[.agg #[i64 a.Id, .string a.Cmd, .string a.Dir, i64 a.Life, i64 a.Code, i64 a.Pid, i64 a.Term.P.State, .bool a.Term.P.Mark, .slice a.Term.P.Args.A a.Term.P.Args.n a.Term.P.Args.c, .slice a.Term.P.Part.A a.Term.P.Part.n a.Term.P.Part.c, i64 a.Term.S.W, i64 a.Term.S.H, i64 a.Term.S.Main.W, i64 a.Term.S.Main.H, .slice a.Term.S.Main.Cells.A a.Term.S.Main.Cells.n a.Term.S.Main.Cells.c, i64 a.Term.S.Alt.W, i64 a.Term.S.Alt.H, .slice a.Term.S.Alt.Cells.A a.Term.S.Alt.Cells.n a.Term.S.Alt.Cells.c, .bool a.Term.S.OnAlt, i64 a.Term.S.X, i64 a.Term.S.Y, .bool a.Term.S.Wrap, i64 a.Term.S.A.Fg, i64 a.Term.S.A.Bg, .bool a.Term.S.A.Bold, .bool a.Term.S.A.Under, .bool a.Term.S.A.Turn, i64 a.Term.S.Top, i64 a.Term.S.Bot, .bool a.Term.S.NoWrap, .bool a.Term.S.Hide, i64 a.Term.S.SaveX, i64 a.Term.S.SaveY, i64 a.Term.S.SaveA.Fg, i64 a.Term.S.SaveA.Bg, .bool a.Term.S.SaveA.Bold, .bool a.Term.S.SaveA.Under, .bool a.Term.S.SaveA.Turn, .slice a.Term.S.Tabs.A a.Term.S.Tabs.n a.Term.S.Tabs.c, i64 a.Term.S.Limit, .slice a.Term.S.Back.A a.Term.S.Back.n a.Term.S.Back.c]] w fun e w' => ∃ r L1, e = .returned (.agg #[i64 r.Id, .string r.Cmd, .string r.Dir, i64 r.Life, i64 r.Code, i64 r.Pid, i64 r.Term.P.State, .bool r.Term.P.Mark, .slice r.Term.P.Args.A r.Term.P.Args.n r.Term.P.Args.c, .slice r.Term.P.Part.A r.Term.P.Part.n r.Term.P.Part.c, i64 r.Term.S.W, i64 r.Term.S.H, i64 r.Term.S.Main.W, i64 r.Term.S.Main.H, .slice r.Term.S.Main.Cells.A r.Term.S.Main.Cells.n r.Term.S.Main.Cells.c, i64 r.Term.S.Alt.W, i64 r.Term.S.Alt.H, .slice r.Term.S.Alt.Cells.A r.Term.S.Alt.Cells.n r.Term.S.Alt.Cells.c, .bool r.Term.S.OnAlt, i64 r.Term.S.X, i64 r.Term.S.Y, .bool r.Term.S.Wrap, i64 r.Term.S.A.Fg, i64 r.Term.S.A.Bg, .bool r.Term.S.A.Bold, .bool r.Term.S.A.Under, .bool r.Term.S.A.Turn, i64 r.Term.S.Top, i64 r.Term.S.Bot, .bool r.Term.S.NoWrap, .bool r.Term.S.Hide, i64 r.Term.S.SaveX, i64 r.Term.S.SaveY, i64 r.Term.S.SaveA.Fg, i64 r.Term.S.SaveA.Bg, .bool r.Term.S.SaveA.Bold, .bool r.Term.S.SaveA.Under, .bool r.Term.S.SaveA.Turn, .slice r.Term.S.Tabs.A r.Term.S.Tabs.n r.Term.S.Tabs.c, i64 r.Term.S.Limit, .slice r.Term.S.Back.A r.Term.S.Back.n r.Term.S.Back.c]) ∧ St w [] L1 w' ∧ ownPaneR r L1 ∧ r.dat = a.dat := by
 have nz_a_Cmd := f_a.Cmd_z
 have nz_a_Dir := f_a.Dir_z
 have nb_a_Term_P_Args := f_a.Term.P.Args_n
 have nl_a_Term_P_Args := f_a.Term.P.Args.len
 have nb_a_Term_P_Part := f_a.Term.P.Part_n
 have nl_a_Term_P_Part := f_a.Term.P.Part.len
 have nb_a_Term_S_Main_Cells := f_a.Term.S.Main.Cells_n
 have nl_a_Term_S_Main_Cells := f_a.Term.S.Main.Cells.len
 have nb_a_Term_S_Alt_Cells := f_a.Term.S.Alt.Cells_n
 have nl_a_Term_S_Alt_Cells := f_a.Term.S.Alt.Cells.len
 have nb_a_Term_S_Tabs := f_a.Term.S.Tabs_n
 have nl_a_Term_S_Tabs := f_a.Term.S.Tabs.len
 have nb_a_Term_S_Back := f_a.Term.S.Back_n
 have nl_a_Term_S_Back := f_a.Term.S.Back.sl.len
 refine enter 27 Tryz.func102 rfl Tryz.ntmps102 rfl rfl ?_
 have hs1 := St.init w
 refine WC.sr (WL.bx hs1 rfl (fun b2 _ hs3 => WL.al hs3 Tryz.zeroValue93 rfl rfl (fun b4 _ hs5 => WL.nil (WC.sr (WL.al hs5 Tryz.zeroValue93 rfl rfl (fun b6 _ hs7 => WL.nil (WC.sr ?_)))))))
 refine WL.r 3 hs7 [2] rfl (WL.st tbk hs7 0 rfl rfl (fun _ hs8 => WL.nil (WC.sr (WL.r 3 hs8 [2] rfl (WL.st tbk hs8 0 rfl rfl (fun _ hs9 => WL.nil (WC.sr ?_)))))))
 refine WL.r 3 hs9 [2] rfl (WL.st tbk hs9 0 rfl rfl (fun _ hs10 => WL.nil (WC.sr (WL.r 3 hs10 [2] rfl (WL.st tbk hs10 0 rfl rfl (fun _ hs11 => WL.nil (WC.sr ?_)))))))
 refine WL.r 3 hs11 [2] rfl (WL.st tbk hs11 0 rfl rfl (fun _ hs12 => WL.nil (WC.sr (WL.r 3 hs12 [2] rfl (WL.st tbk hs12 0 rfl rfl (fun _ hs13 => WL.nil (WC.sr ?_)))))))
 refine WL.r 2 hs13 [2] rfl (WL.cl Tryz.call162 rfl (k32_ a.Term _ (okTermR.st0 f_a.Term hs13)) ?_)
 rintro _ whs14 ⟨r15, L1_16, rfl, hs14, ho17, hd18⟩
 replace hs14 := hs13.callF hs14
 refine ⟨_, rfl, ?_⟩
 replace hs14 := St.back [_, _, _] hs14
 refine WL.r 1 hs14 [] rfl (WL.st tbk hs14 0 rfl rfl (fun _ hs19 => WL.nil (WC.sr (WL.r 1 hs19 [0] rfl (WL.st tbk hs19 1 rfl rfl (fun _ hs20 => WL.nil (WC.ret ?_)))))))
 refine retV1 rfl (resV.cellA tbk hs20 1 rfl rfl rfl rfl) ?_
 obtain ⟨L21, L22, L23, L24, L25, L26, hs33, ho27, ho28, ho29, ho30, ho31, ho32⟩ := ownTermR.op hs20 ho17
 have hs34 := (((hs33.fb b2).fb b4).fb b6)
 obtain ⟨L36, hs35, ho37⟩ := ownPaneR.fl hs34 ho27 ho28 ho29 ho30 ho31 ho32
 have hs38 := (((hs35.fb b2).fb b4).fb b6)
 refine ⟨⟨a.Id, a.Cmd, a.Dir, a.Life, a.Code, a.Pid, ⟨⟨r15.P.State, r15.P.Mark, SlD.of ho27, SlD.of ho28⟩, ⟨r15.S.W, r15.S.H, ⟨r15.S.Main.W, r15.S.Main.H, SlD.of ho29⟩, ⟨r15.S.Alt.W, r15.S.Alt.H, SlD.of ho30⟩, r15.S.OnAlt, r15.S.X, r15.S.Y, r15.S.Wrap, ⟨r15.S.A.Fg, r15.S.A.Bg, r15.S.A.Bold, r15.S.A.Under, r15.S.A.Turn⟩, r15.S.Top, r15.S.Bot, r15.S.NoWrap, r15.S.Hide, r15.S.SaveX, r15.S.SaveY, ⟨r15.S.SaveA.Fg, r15.S.SaveA.Bg, r15.S.SaveA.Bold, r15.S.SaveA.Under, r15.S.SaveA.Turn⟩, SlD.of ho31, r15.S.Limit, SlD.ofN ho32⟩⟩⟩, _, rfl, (St.keep1 (hs38.fr L36)), ?_, ?_⟩
 · exact (by exact ho37)
 · exact PaneD.ext' rfl rfl rfl rfl rfl rfl hd18
set_option maxHeartbeats 4000000 in
theorem k75_ (a : WinR) (left : Int) (w : World) (f_a : okWinR 9223372036854775807 w a) (h1 : 0 ≤ left) (h2 : left ≤ 1048576) :
    Calls Tryz.prog 99 #[.agg #[i64 a.Id, .string a.Name, .slice a.Tree.A a.Tree.n a.Tree.c, i64 a.Active, .bool a.Zoom], i64 left] w fun e w' => e = .returned (.int .i64 (szR left (totWin a.dat))) ∧ St w [] [] w' := by
 have nz_a_Name := f_a.Name_z
 have nb_a_Tree := f_a.Tree_n
 have nl_a_Tree := f_a.Tree.len
 refine enter 19 Tryz.func99 rfl Tryz.ntmps99 rfl rfl ?_
 have hs1 := St.init w
 refine WC.sr (WL.bx hs1 rfl (fun b2 _ hs3 => WL.r 1 hs3 [] rfl (WL.nil (WC.r1 hs3 [0] rfl (WC.seq (fun K4 hK4 => WC.r1 hs3 [] rfl ?_))))))
 refine WC.cD rfl (fun qh5 => ?_) (fun qh5 => ?_)
 ·try have soh5 := szR_ok qh5 (by omega)
  try have sbh5 := szR_b qh5 (by omega) (by first | assumption | omega)
  try have snh5 := szR_no qh5
  refine WC.r1 hs3 [] rfl (WC.ret (tkR ?_))
  clear hK4
  refine rtv rfl rfl hs3 ?_
  simp only [totWin, WinR.dat] at *; first | (rw [szR_lt (by omega)]; done) | (refine congrArg (Value.int _) ?_; symm; refine (szR_le ?_).trans ?_ <;> omega) | rfl
 try have soh5 := szR_ok qh5 (by omega)
 try have sbh5 := szR_b qh5 (by omega) (by first | assumption | omega)
 try have snh5 := szR_no qh5
 refine WC.skip (hK4 _ _ (WC.sr (WL.r 3 hs3 [0] rfl ?_)))
 refine WL.cl Tryz.call159 rfl (k17_ _ _ _ _ _ _ (SlF.st0 f_a.Tree hs3) ?_ ?_ ?_) ?_
 · first | assumption | omega
 · first | assumption | omega | exact szR_b (by assumption) (by omega) (by first | assumption | omega)
 · first | assumption | omega
 rintro _ whs6 ⟨rfl, hs6⟩
 replace hs6 := hs3.call0 hs6
 refine ⟨_, rfl, WL.r 1 hs6 [] rfl (WL.nil (WC.seq (fun K7 hK7 => WC.r1 hs6 [] rfl ?_)))⟩
 refine WC.cD rfl (fun qh8 => ?_) (fun qh8 => ?_)
 ·try have soh8 := szR_ok qh8 (by omega)
  try have sbh8 := szR_b qh8 (by omega) (by first | assumption | omega)
  try have snh8 := szR_no qh8
  refine WC.r1 hs6 [] rfl (WC.ret (tkR ?_))
  clear hK7
  refine rtv rfl rfl hs6 ?_
  simp only [totWin, WinR.dat] at *; first | (rw [szR_lt (by omega)]; done) | (refine congrArg (Value.int _) ?_; symm; refine (szR_le ?_).trans ?_ <;> omega) | rfl
 try have soh8 := szR_ok qh8 (by omega)
 try have sbh8 := szR_b qh8 (by omega) (by first | assumption | omega)
 try have snh8 := szR_no qh8
 refine WC.skip (hK7 _ _ (WC.r1 hs6 [] rfl (WC.ret (rtv rfl rfl hs6 ?_))))
 simp only [totWin, WinR.dat] at *; first | (rw [szR_lt (by omega)]; done) | (refine congrArg (Value.int _) ?_; symm; refine (szR_le ?_).trans ?_ <;> omega) | rfl
set_option maxHeartbeats 4000000 in
theorem k76_ (a : WinR) (w : World) (f_a : okWinR 549755813888 w a) :
    Calls Tryz.prog 103 #[.agg #[i64 a.Id, .string a.Name, .slice a.Tree.A a.Tree.n a.Tree.c, i64 a.Active, .bool a.Zoom]] w fun e w' => ∃ r L1, e = .returned (.agg #[i64 r.Id, .string r.Name, .slice r.Tree.A r.Tree.n r.Tree.c, i64 r.Active, .bool r.Zoom]) ∧ St w [] L1 w' ∧ ownWinR r L1 ∧ r.dat = a.dat := by
 have nz_a_Name := f_a.Name_z
 have nb_a_Tree := f_a.Tree_n
 have nl_a_Tree := f_a.Tree.len
 refine enter 21 Tryz.func103 rfl Tryz.ntmps103 rfl rfl ?_
 have hs1 := St.init w
 refine WC.sr (WL.bx hs1 rfl (fun b2 _ hs3 => WL.al hs3 Tryz.zeroValue58 rfl rfl (fun b4 _ hs5 => WL.nil (WC.sr (WL.al hs5 Tryz.zeroValue58 rfl rfl (fun b6 _ hs7 => WL.nil (WC.sr ?_)))))))
 refine WL.r 3 hs7 [2] rfl (WL.st tbk hs7 0 rfl rfl (fun _ hs8 => WL.nil (WC.sr (WL.r 3 hs8 [2] rfl (WL.st tbk hs8 0 rfl rfl (fun _ hs9 => WL.nil (WC.sr ?_)))))))
 refine WL.r 2 hs9 [2] rfl (WL.cl Tryz.call163 rfl (k20_ _ _ _ _ _ (SlF.st0 f_a.Tree hs9) ?_) ?_)
 · first | assumption | rfl | omega
 rintro _ whs10 ⟨A11, c12, L1_13, rfl, hs10, ho14⟩
 replace hs10 := hs9.callF hs10
 refine ⟨_, rfl, ?_⟩
 replace hs10 := St.back [_, _, _] hs10
 refine WL.r 1 hs10 [] rfl (WL.st tbk hs10 0 rfl rfl (fun _ hs15 => WL.nil (WC.sr (WL.r 3 hs15 [2] rfl (WL.st tbk hs15 0 rfl rfl (fun _ hs16 => WL.nil (WC.sr ?_)))))))
 refine WL.r 3 hs16 [2] rfl (WL.st tbk hs16 0 rfl rfl (fun _ hs17 => WL.nil (WC.sr (WL.r 1 hs17 [0] rfl (WL.st tbk hs17 1 rfl rfl (fun _ hs18 => WL.nil (WC.ret ?_)))))))
 refine retV1 rfl (resV.cellA tbk hs18 1 rfl rfl rfl rfl) (⟨⟨a.Id, a.Name, SlD.of ho14, a.Active, a.Zoom⟩, _, rfl, (St.keep1 (hs18.fr L1_13)), ?_, ?_⟩)
 · exact ho14
 · exact WinD.ext' rfl rfl rfl rfl rfl
set_option maxHeartbeats 4000000 in
theorem k77_ (a : SessR) (left : Int) (w : World) (f_a : okSessR 9223372036854775807 w a) (h1 : 0 ≤ left) (h2 : left ≤ 1048576) :
    Calls Tryz.prog 100 #[.agg #[.string a.Name, .slice a.Wins.A a.Wins.n a.Wins.c, i64 a.Active], i64 left] w fun e w' => e = .returned (.int .i64 (szR left (totSess a.dat))) ∧ St w [] [] w' := by
 have nz_a_Name := f_a.Name_z
 have nb_a_Wins := f_a.Wins_n
 have nl_a_Wins := f_a.Wins.len
 refine enter 19 Tryz.func100 rfl Tryz.ntmps100 rfl rfl ?_
 have hs1 := St.init w
 refine WC.sr (WL.bx hs1 rfl (fun b2 _ hs3 => WL.r 1 hs3 [] rfl (WL.nil (WC.r1 hs3 [0] rfl (WC.seq (fun K4 hK4 => WC.r1 hs3 [] rfl ?_))))))
 refine WC.cD rfl (fun qh5 => ?_) (fun qh5 => ?_)
 ·try have soh5 := szR_ok qh5 (by omega)
  try have sbh5 := szR_b qh5 (by omega) (by first | assumption | omega)
  try have snh5 := szR_no qh5
  refine WC.r1 hs3 [] rfl (WC.ret (tkR ?_))
  clear hK4
  refine rtv rfl rfl hs3 ?_
  simp only [totSess, SessR.dat] at *; first | (rw [szR_lt (by omega)]; done) | (refine congrArg (Value.int _) ?_; symm; refine (szR_le ?_).trans ?_ <;> omega) | rfl
 try have soh5 := szR_ok qh5 (by omega)
 try have sbh5 := szR_b qh5 (by omega) (by first | assumption | omega)
 try have snh5 := szR_no qh5
 refine WC.skip (hK4 _ _ (WC.sr (WL.r 3 hs3 [0] rfl ?_)))
 refine WL.cl Tryz.call160 rfl (k15_ _ _ _ _ _ _ (SlF.st0 f_a.Wins hs3) ?_ ?_ ?_) ?_
 · first | assumption | omega
 · first | assumption | omega | exact szR_b (by assumption) (by omega) (by first | assumption | omega)
 · first | assumption | omega
 rintro _ whs6 ⟨rfl, hs6⟩
 replace hs6 := hs3.call0 hs6
 refine ⟨_, rfl, WL.r 1 hs6 [] rfl (WL.nil (WC.seq (fun K7 hK7 => WC.r1 hs6 [] rfl ?_)))⟩
 refine WC.cD rfl (fun qh8 => ?_) (fun qh8 => ?_)
 ·try have soh8 := szR_ok qh8 (by omega)
  try have sbh8 := szR_b qh8 (by omega) (by first | assumption | omega)
  try have snh8 := szR_no qh8
  refine WC.r1 hs6 [] rfl (WC.ret (tkR ?_))
  clear hK7
  refine rtv rfl rfl hs6 ?_
  simp only [totSess, SessR.dat] at *; first | (rw [szR_lt (by omega)]; done) | (refine congrArg (Value.int _) ?_; symm; refine (szR_le ?_).trans ?_ <;> omega) | rfl
 try have soh8 := szR_ok qh8 (by omega)
 try have sbh8 := szR_b qh8 (by omega) (by first | assumption | omega)
 try have snh8 := szR_no qh8
 refine WC.skip (hK7 _ _ (WC.r1 hs6 [] rfl (WC.ret (rtv rfl rfl hs6 ?_))))
 simp only [totSess, SessR.dat] at *; first | (rw [szR_lt (by omega)]; done) | (refine congrArg (Value.int _) ?_; symm; refine (szR_le ?_).trans ?_ <;> omega) | rfl
set_option maxHeartbeats 4000000 in
theorem k78_ (a : SessR) (w : World) (f_a : okSessR 549755813888 w a) :
    Calls Tryz.prog 104 #[.agg #[.string a.Name, .slice a.Wins.A a.Wins.n a.Wins.c, i64 a.Active]] w fun e w' => ∃ r L1, e = .returned (.agg #[.string r.Name, .slice r.Wins.A r.Wins.n r.Wins.c, i64 r.Active]) ∧ St w [] L1 w' ∧ ownSessR r L1 ∧ r.dat = a.dat := by
 have nz_a_Name := f_a.Name_z
 have nb_a_Wins := f_a.Wins_n
 have nl_a_Wins := f_a.Wins.len
 refine enter 15 Tryz.func104 rfl Tryz.ntmps104 rfl rfl ?_
 have hs1 := St.init w
 refine WC.sr (WL.bx hs1 rfl (fun b2 _ hs3 => WL.al hs3 Tryz.zeroValue106 rfl rfl (fun b4 _ hs5 => WL.nil (WC.sr (WL.al hs5 Tryz.zeroValue106 rfl rfl (fun b6 _ hs7 => WL.nil (WC.sr ?_)))))))
 refine WL.r 3 hs7 [2] rfl (WL.st tbk hs7 0 rfl rfl (fun _ hs8 => WL.nil (WC.sr (WL.r 2 hs8 [2] rfl ?_))))
 refine WL.cl Tryz.call164 rfl (k16_ _ _ _ _ _ (SlF.st0 f_a.Wins hs8) ?_) ?_
 · first | assumption | rfl | omega
 rintro _ whs9 ⟨A10, c11, L1_12, rfl, hs9, ho13⟩
 replace hs9 := hs8.callF hs9
 refine ⟨_, rfl, ?_⟩
 replace hs9 := St.back [_, _, _] hs9
 refine WL.r 1 hs9 [] rfl (WL.st tbk hs9 0 rfl rfl (fun _ hs14 => WL.nil (WC.sr (WL.r 3 hs14 [2] rfl (WL.st tbk hs14 0 rfl rfl (fun _ hs15 => WL.nil (WC.sr ?_)))))))
 refine WL.r 1 hs15 [0] rfl (WL.st tbk hs15 1 rfl rfl (fun _ hs16 => WL.nil (WC.ret (retV1 rfl (resV.cellA tbk hs16 1 rfl rfl rfl rfl) ?_))))
 refine ⟨⟨a.Name, SlD.of ho13, a.Active⟩, _, rfl, (St.keep1 (hs16.fr L1_12)), ?_, ?_⟩
 · exact ho13
 · exact SessD.ext' rfl rfl rfl
theorem k79_ (v_b : Value) (b : List UInt8) (L_b : Hp) (p : PaneR) (w : World) (o_b : OwnF encB 5 v_b b L_b) (h_b : Hh w L_b) (f_p : okPaneR 549755813888 w p) (s_p : sepPaneR (L_b.map (·.1)) p) (hok : paneOk p.dat = true) (hsm : smPane 1048576 p.dat) (hx : b.length ≤ 200000000) :
    Calls Tryz.prog 78 #[v_b, .agg #[i64 p.Id, .string p.Cmd, .string p.Dir, i64 p.Life, i64 p.Code, i64 p.Pid, i64 p.Term.P.State, .bool p.Term.P.Mark, .slice p.Term.P.Args.A p.Term.P.Args.n p.Term.P.Args.c, .slice p.Term.P.Part.A p.Term.P.Part.n p.Term.P.Part.c, i64 p.Term.S.W, i64 p.Term.S.H, i64 p.Term.S.Main.W, i64 p.Term.S.Main.H, .slice p.Term.S.Main.Cells.A p.Term.S.Main.Cells.n p.Term.S.Main.Cells.c, i64 p.Term.S.Alt.W, i64 p.Term.S.Alt.H, .slice p.Term.S.Alt.Cells.A p.Term.S.Alt.Cells.n p.Term.S.Alt.Cells.c, .bool p.Term.S.OnAlt, i64 p.Term.S.X, i64 p.Term.S.Y, .bool p.Term.S.Wrap, i64 p.Term.S.A.Fg, i64 p.Term.S.A.Bg, .bool p.Term.S.A.Bold, .bool p.Term.S.A.Under, .bool p.Term.S.A.Turn, i64 p.Term.S.Top, i64 p.Term.S.Bot, .bool p.Term.S.NoWrap, .bool p.Term.S.Hide, i64 p.Term.S.SaveX, i64 p.Term.S.SaveY, i64 p.Term.S.SaveA.Fg, i64 p.Term.S.SaveA.Bg, .bool p.Term.S.SaveA.Bold, .bool p.Term.S.SaveA.Under, .bool p.Term.S.SaveA.Turn, .slice p.Term.S.Tabs.A p.Term.S.Tabs.n p.Term.S.Tabs.c, i64 p.Term.S.Limit, .slice p.Term.S.Back.A p.Term.S.Back.n p.Term.S.Back.c]] w fun e w' => ∃ A c L1, e = .returned (.tuple #[.slice A (b ++ paneL p.dat).length c, .bool (termFine p.Term.dat)]) ∧ St w (L_b.map (·.1)) L1 w' ∧ OwnF encB 5 (.slice A (b ++ paneL p.dat).length c) (b ++ paneL p.dat) L1 := by
 obtain ⟨A_b, c_b, rfl⟩ := o_b.shape
 have nz_p_Cmd := f_p.Cmd_z
 have nz_p_Dir := f_p.Dir_z
 have nb_p_Term_P_Args := f_p.Term.P.Args_n
 have nl_p_Term_P_Args := f_p.Term.P.Args.len
 have nb_p_Term_P_Part := f_p.Term.P.Part_n
 have nl_p_Term_P_Part := f_p.Term.P.Part.len
 have nb_p_Term_S_Main_Cells := f_p.Term.S.Main.Cells_n
 have nl_p_Term_S_Main_Cells := f_p.Term.S.Main.Cells.len
 have nb_p_Term_S_Alt_Cells := f_p.Term.S.Alt.Cells_n
 have nl_p_Term_S_Alt_Cells := f_p.Term.S.Alt.Cells.len
 have nb_p_Term_S_Tabs := f_p.Term.S.Tabs_n
 have nl_p_Term_S_Tabs := f_p.Term.S.Tabs.len
 have nb_p_Term_S_Back := f_p.Term.S.Back_n
 have nl_p_Term_S_Back := f_p.Term.S.Back.sl.len
 have hb : (1 ≤ p.Id ∧ p.Id ≤ 1000000) ∧ p.Cmd.size ≤ 60 ∧ p.Dir.size ≤ 60 ∧ termOk p.Term.dat = true ∧ (1 ≤ p.Life ∧ p.Life ≤ 3) ∧ (0 ≤ p.Code ∧ p.Code ≤ 255) ∧ 0 ≤ p.Pid ∧ p.Pid ≤ 1000000 := paneOk_bnd hok
 have hto := termOut_len p.Term.dat
 have v1 := varL_len p.Id.toNat (by omega)
 have v2 := textL_len (s := p.Cmd) (by omega)
 have v3 := textL_len (s := p.Dir) (by omega)
 have v4 := numsL_len (l := [p.Life, p.Code, p.Pid, ((termOut p.Term.dat).length : Int)]) (fun x hx => by simp only [List.mem_cons, List.not_mem_nil, or_false] at hx; omega)
 simp only [List.length_cons, List.length_nil] at v4
 refine enter 38 Tryz.func78 rfl Tryz.ntmps78 rfl rfl ?_
 have hs1 := St.lent1 w L_b o_b h_b
 refine WC.sr (WL.bx hs1 rfl (fun b2 _ hs3 => WL.r 2 hs3 [] rfl (WL.nil (WC.sr (WL.r 2 hs3 [0] rfl ?_)))))
 refine WL.cl Tryz.call141 rfl (k72_ p.Term _ (okTermR.st f_p.Term hs3 s_p.Term) ?_) ?_
 · first | assumption | rfl | omega | exact hsm.2.2
 rintro _ whs4 ⟨A5, c6, L1_7, rfl, hs4, ho8⟩
 replace hs4 := hs3.callF hs4
 refine ⟨_, rfl, ?_⟩
 replace hs4 := St.back [_] hs4
 refine WL.r 5 hs4 [] rfl (WL.nil (WC.seq (fun K9 hK9 => WC.rH (hs4.rm L_b) hs4 (fun _ hs10 => ?_))))
 refine WH.rn [0, 1, 2, 4, 5, 7, 8] (hs10.rm L_b) [0, 0, 0] rfl rfl (WH.o1 3 rfl (WL.cl Tryz.call79 rfl (k65_ _ _ _ _ _ o_b (hs10.ow L_b) ?_ ?_ ?_) ?_))
 iterate 2 first | omega | assumption | exact hsm.2.2
 · first | omega | (simp only [List.length_append, List.length_nil, List.length_cons, Int.toNat_natCast] at *; omega) | assumption | exact hsm.2.2
 rintro _ whs11 ⟨A12, c13, L1_14, rfl, hs11, ho15⟩
 replace hs11 := St.lend (hs10.fr L_b) hs11
 refine ⟨_, rfl, ?_⟩
 replace hs11 := St.back [_] hs11
 refine WL.nil ⟨(hs11.rm L1_14), WH.o1 6 rfl (WL.cl Tryz.call81 rfl (k67_ _ _ _ _ _ ho15 (hs11.ow L1_14) ?_ ?_) ?_)⟩
 · first | omega | assumption | exact hsm.2.2
 · first | omega | (simp only [List.length_append]; omega) | assumption | exact hsm.2.2
 rintro _ whs16 ⟨A17, c18, L1_19, rfl, hs16, ho20⟩
 replace hs16 := St.lend (hs11.fr L1_14) hs16
 refine ⟨_, rfl, ?_⟩
 replace hs16 := St.back [_] hs16
 refine WL.nil ⟨(hs16.rm L1_19), WH.o1 9 rfl (WL.cl Tryz.call81 rfl (k67_ _ _ _ _ _ ho20 (hs16.ow L1_19) ?_ ?_) ?_)⟩
 · first | omega | assumption | exact hsm.2.2
 · first | omega | (simp only [List.length_append]; omega) | assumption | exact hsm.2.2
 rintro _ whs21 ⟨A22, c23, L1_24, rfl, hs21, ho25⟩
 replace hs21 := St.lend (hs16.fr L1_19) hs21
 refine ⟨_, rfl, ?_⟩
 replace hs21 := St.back [_] hs21
 refine WL.nil ⟨(hs21.rm L1_24), WH.rn [10] (hs21.rm L1_24) [] rfl rfl (WH.dn (hK9 _ _ (WC.sr (WL.r 9 hs21 [0, 0, 0] rfl (WL.buildF (F := encI) hs21 ([p.Life, p.Code, p.Pid, ((termOut p.Term.dat).length : Int)]) Tryz.runUnderlying60 Tryz.sizeOf3 Tryz.zeroValue3 rfl rfl rfl rfl rfl rfl rfl rfl rfl rfl rfl rfl (fun A29 c30 L26 whs27 hs27 ho28 => ?_))))))⟩
 replace hs27 := St.back [_] hs27
 refine WL.cl Tryz.call77 rfl (k66_ _ _ _ _ _ _ _ _ ho25 (hs27.ow L1_24) (SlF.ofOwn ho28 (hs27.ow L26)) (OwnF.sep (hs27.fr L1_24) (fun p_ hp_ => (List.mem_append_right [_] (List.mem_append_left _ hp_))) ho28) ?_ ?_) ?_
 · first | exact hnb | (intro x hx; simp only [List.mem_cons, List.not_mem_nil, or_false] at hx; omega) | assumption | omega | exact hsm.2.2
 · first | omega | (simp only [List.length_append, List.length_nil, List.length_cons, Int.toNat_natCast] at *; omega) | assumption | exact hsm.2.2
 rintro _ whs31 ⟨A32, c33, L1_34, rfl, hs31, ho35⟩
 replace hs31 := St.lend (hs27.fr L1_24) hs31
 refine ⟨_, rfl, ?_⟩
 replace hs31 := St.back [_] hs31
 refine WL.r 1 hs31 [] rfl (WL.appendG (hs31.fr L1_34) ho35 (SlF.src (SlF.ofOwn ho8 (hs31.ow L1_7)) Tryz.underlying44) Tryz.underlying44 inf5 rfl rfl rfl rfl rfl rfl rfl rfl rfl rfl ?_ (fun A39 c40 L36 whs37 hs37 ho38 => ?_))
 · first | omega | (simp only [List.length_append, List.length_nil, List.length_cons, Int.toNat_natCast] at *; omega)
 replace hs37 := St.back [_] hs37
 refine WL.r 3 hs37 [] rfl (WL.nil (WC.ret (retV2 rfl (resV.tmp rfl) (resV.tmp rfl) ?_)))
 have hx_ := OwnF.eqOf (xs := b ++ paneL p.dat) ho38 (by unfold paneL; simp only [List.append_assoc, List.nil_append]; rfl)
 rw [← hx_]
 first | exact ⟨_, _, _, rfl, (St.keep1 (hs37.fr L36)), ho38⟩ | exact ⟨A39, c40, _, by rw [OwnF.len_ ho38], (St.keep1 (hs37.fr L36)), by rw [OwnF.len_ ho38]; exact ho38⟩
theorem k80_ (v_b : Value) (b : List UInt8) (L_b : Hp) (x : WinR) (w : World) (o_b : OwnF encB 5 v_b b L_b) (h_b : Hh w L_b) (f_x : okWinR 549755813888 w x) (s_x : sepWinR (L_b.map (·.1)) x) (hok : ((1 ≤ x.Id ∧ x.Id ≤ 1000000) ∧ wordOk x.Name = true ∧ treeOk x.Tree.xs = true ∧ hasI (panesL x.Tree.xs) x.Active = true)) (hx : b.length ≤ 100000000) :
    Calls Tryz.prog 80 #[v_b, .agg #[i64 x.Id, .string x.Name, .slice x.Tree.A x.Tree.n x.Tree.c, i64 x.Active, .bool x.Zoom]] w fun e w' => ∃ A c L1, e = .returned (.slice A (b ++ winL x.dat).length c) ∧ St w (L_b.map (·.1)) L1 w' ∧ OwnF encB 5 (.slice A (b ++ winL x.dat).length c) (b ++ winL x.dat) L1 := by
 obtain ⟨A_b, c_b, rfl⟩ := o_b.shape
 have nz_x_Name := f_x.Name_z
 have nb_x_Tree := f_x.Tree_n
 have nl_x_Tree := f_x.Tree.len
 obtain ⟨hi, hnm, htr, hac⟩ := hok
 have htl := treeOk_len htr
 have h0 := wordOk_len hnm
 have hT_ := f_x.Tree.len
 have v1 := varL_len x.Id.toNat (by omega)
 have v2 := textL_len (s := x.Name) (by omega)
 have v3 := varL_len x.Tree.xs.length (by omega)
 have hnb0 := nodes_bnd (tree_nodes htr)
 have ha := pane_active htr hac
 have hz := bitI_bnd (b := x.Zoom) (k := 1) (by decide)
 have v5 := numsL_len (l := [x.Active, bitI x.Zoom 1]) (fun y hy => by simp only [List.mem_cons, List.not_mem_nil, or_false] at hy; omega)
 simp only [List.length_cons, List.length_nil] at v5
 have v3b := varL_len ((x.Tree.n : Int)).toNat (by omega)
 refine enter 44 Tryz.func80 rfl Tryz.ntmps80 rfl rfl ?_
 have hs1 := St.lent1 w L_b o_b h_b
 refine WC.sr (WL.bx hs1 rfl (fun b2 _ hs3 => WL.r 1 hs3 [] rfl (WL.nil (WC.seq (fun K4 hK4 => WC.rH (hs3.rm L_b) hs3 (fun _ hs5 => ?_))))))
 refine WH.rn [0, 1, 2, 4, 5, 7, 8, 9] (hs5.rm L_b) [0, 0, 0] rfl rfl (WH.o1 3 rfl (WL.cl Tryz.call79 rfl (k65_ _ _ _ _ _ o_b (hs5.ow L_b) ?_ ?_ ?_) ?_))
 iterate 2 first | omega | assumption
 · first | omega | (simp only [List.length_append, List.length_nil, List.length_cons, Int.toNat_natCast] at *; omega) | assumption
 rintro _ whs6 ⟨A7, c8, L1_9, rfl, hs6, ho10⟩
 replace hs6 := St.lend (hs5.fr L_b) hs6
 refine ⟨_, rfl, ?_⟩
 replace hs6 := St.back [_] hs6
 refine WL.nil ⟨(hs6.rm L1_9), WH.o1 6 rfl (WL.cl Tryz.call81 rfl (k67_ _ _ _ _ _ ho10 (hs6.ow L1_9) ?_ ?_) ?_)⟩
 · first | omega | assumption
 · first | omega | (simp only [List.length_append]; omega) | assumption
 rintro _ whs11 ⟨A12, c13, L1_14, rfl, hs11, ho15⟩
 replace hs11 := St.lend (hs6.fr L1_9) hs11
 refine ⟨_, rfl, ?_⟩
 replace hs11 := St.back [_] hs11
 refine WL.nil ⟨(hs11.rm L1_14), WH.o1 10 rfl (WL.cl Tryz.call79 rfl (k65_ _ _ _ _ _ ho15 (hs11.ow L1_14) ?_ ?_ ?_) ?_)⟩
 iterate 2 first | omega | assumption
 · first | omega | (simp only [List.length_append, List.length_nil, List.length_cons, Int.toNat_natCast] at *; omega) | assumption
 rintro _ whs16 ⟨A17, c18, L1_19, rfl, hs16, ho20⟩
 replace hs16 := St.lend (hs11.fr L1_14) hs16
 refine ⟨_, rfl, ?_⟩
 replace hs16 := St.back [_] hs16
 refine WL.nil ⟨(hs16.rm L1_19), WH.rn [11] (hs16.rm L1_19) [] rfl rfl (WH.dn (hK4 _ _ (WC.seq (fun K21 hK21 => WC.r1 hs16 [0] rfl (WC.block ?_)))))⟩
 refine WC.lO [3, 4, 19, 20] rfl (hs16.fr L1_19) (fun k_ f L_ => ∃ (zs : List UInt8) (i : Nat) (A22 : Option Addr) (c23 : Nat), k_ = x.Tree.n - i ∧ (i ≤ x.Tree.n) ∧ (zs = b ++ varL x.Id.toNat ++ textL x.Name ++ varL ((x.Tree.n : Int)).toNat ++ numsL ((x.Tree.xs.take i).flatMap nodeL)) ∧ OwnF encB 5 (.slice A22 (zs.length) c23) (zs) L_ ∧ Sub [(0, .slice A22 (zs.length) c23), (21, .int .i64 i)] f) (x.Tree.n) ?_ ?_
 ·refine ⟨b ++ varL x.Id.toNat ++ textL x.Name ++ varL ((x.Tree.n : Int)).toNat, 0, _, _, rfl, ?_, ?_, ho20, ⟨rfl, rfl, trivial⟩⟩
  · exact Nat.zero_le _
  · simp [numsL]
 clear hs16
 rintro _ f w L24 ⟨zs, i, A22, c23, rfl, p0, p1, ho25, hG⟩ hF hs26
 refine WC.sub _ (hG.app hF) ?_
 clear hG hF
 replace hs26 := St.back [_] hs26
 have hzl : zs.length ≤ 100000000 + 2000 := by
   rw [p1]
   have q7 := numsL_len (l := (x.Tree.xs.take i).flatMap nodeL) (fun y hy => by have := nodes_bnd (fun n hn => tree_nodes htr n (List.mem_of_mem_take hn)) y hy; omega)
   rw [nodes_len, List.length_take] at q7
   simp only [List.length_append, Int.toNat_natCast] at *
   omega
 refine WC.r1 hs26 [] rfl (WC.seq (fun K27 hK27 => ?_))
 refine WC.cq rfl (fun h28 qh28 => ?_) (fun h28 qh28 => ?_)
 ·have hnd := nodeOk_bnd (tree_nodes htr (gat encNode x.Tree.xs i) (gat_mem (by omega)))
  have hbd := bitI_bnd (b := (gat encNode x.Tree.xs i).Down) (k := 1) (by decide)
  refine WC.skip (hK27 _ _ (WC.seq (fun K29 hK29 => WC.block (WC.sr ?_))))
  refine WL.val rfl rfl rfl (Run.idxN Tryz.runUnderlying56 Tryz.sizeOf103 rfl rfl rfl ?_ ?_ ?_) ?_
  · exact SlF.some_ (SlF.st f_x.Tree hs26 s_x.Tree)
  · omega
  · omega
  refine WL.val rfl rfl rfl (Run.loadA Tryz.isAgg103 Tryz.sizeOf103 rfl rfl (SlF.whole (SlF.st f_x.Tree hs26 s_x.Tree) ?_)) ?_
  · omega
  refine WL.al hs26 Tryz.zeroValue103 rfl rfl (fun b30 _ hs31 => WL.st tbk hs31 0 rfl rfl (fun _ hs32 => WL.nil (WC.rH (hs32.rm L24) hs32 (fun _ hs33 => ?_))))
  refine WH.rn [0, 1, 2, 3, 4, 5, 6] (hs33.rm L24) [0, 0, 0] rfl rfl (WH.o1 7 rfl (WL.cl Tryz.call142 rfl (k70_ _ _ _) ?_))
  rintro _ whs34 ⟨rfl, hs34⟩
  replace hs34 := hs33.call0 hs34
  refine ⟨_, rfl, WL.nil ⟨(hs34.rm L24), WH.o1 8 rfl (WL.buildF (F := encI) hs34 ([(gat encNode x.Tree.xs i).Pane, (gat encNode x.Tree.xs i).First, bitI (gat encNode x.Tree.xs i).Down 1]) Tryz.runUnderlying60 Tryz.sizeOf3 Tryz.zeroValue3 rfl rfl rfl rfl rfl rfl rfl rfl rfl rfl rfl rfl (fun A38 c39 L35 whs36 hs36 ho37 => ?_))⟩⟩
  replace hs36 := St.back [_, _] hs36
  refine WL.nil ⟨((hs36.rm L35).rm L24), WH.o1 9 rfl (WL.cl Tryz.call77 rfl (k66_ _ _ _ _ _ _ _ _ ho25 (hs36.ow L24) (SlF.ofOwn ho37 (hs36.ow L35)) (OwnF.sep (hs36.fr L24) (fun p_ hp_ => (List.mem_append_right [_, _] (List.mem_append_left _ hp_))) ho37) ?_ ?_) ?_)⟩
  · first | exact hnb | (intro x hx; simp only [List.mem_cons, List.not_mem_nil, or_false] at hx; omega) | assumption | omega
  · first | omega | (simp only [List.length_append, List.length_nil, List.length_cons, Int.toNat_natCast] at *; omega) | assumption
  rintro _ whs40 ⟨A41, c42, L1_43, rfl, hs40, ho44⟩
  replace hs40 := St.lend (hs36.fr L24) hs40
  refine ⟨_, rfl, ?_⟩
  replace hs40 := St.back [_, _] hs40
  refine WL.nil ⟨((hs40.rm L1_43).rm L35), WH.rn [10] ((hs40.rm L1_43).rm L35) [] rfl rfl (WH.dn (hK29 _ _ (WC.region (WL.r 2 hs40 [] rfl (WL.nil (tkN ?_))))))⟩
  replace hs40 := (hs40.d1.rm L35)
  refine ⟨sbF rfl, _, (hs40.fr L1_43), _, ?_, _, i + 1, _, _, rfl, ?_, ?_, ho44, ⟨rfl, rfl, trivial⟩⟩
  · omega
  · omega
  · rw [p1, nodes_take (by omega), numsL_append]; simp only [List.append_assoc, List.nil_append]; rfl
 refine WC.exit (hK21 _ _ (WC.seq (fun K45 hK45 => WC.rH (hs26.rm L24) hs26 (fun _ hs46 => ?_))))
 refine WH.rn [0, 1, 2, 3, 4] (hs46.rm L24) [0, 0] rfl rfl (WH.o1 5 rfl (WL.cl Tryz.call142 rfl (k70_ _ _ _) ?_))
 rintro _ whs47 ⟨rfl, hs47⟩
 replace hs47 := hs46.call0 hs47
 refine ⟨_, rfl, WL.nil ⟨(hs47.rm L24), WH.o1 6 rfl (WL.buildF (F := encI) hs47 ([x.Active, bitI x.Zoom 1]) Tryz.runUnderlying60 Tryz.sizeOf3 Tryz.zeroValue3 rfl rfl rfl rfl rfl rfl rfl rfl rfl rfl rfl rfl (fun A51 c52 L48 whs49 hs49 ho50 => ?_))⟩⟩
 replace hs49 := St.back [_] hs49
 refine WL.nil ⟨((hs49.rm L48).rm L24), WH.o1 7 rfl (WL.cl Tryz.call77 rfl (k66_ _ _ _ _ _ _ _ _ ho25 (hs49.ow L24) (SlF.ofOwn ho50 (hs49.ow L48)) (OwnF.sep (hs49.fr L24) (fun p_ hp_ => (List.mem_append_right [_] (List.mem_append_left _ hp_))) ho50) ?_ ?_) ?_)⟩
 · first | exact hnb | (intro x hx; simp only [List.mem_cons, List.not_mem_nil, or_false] at hx; omega) | assumption | omega
 · first | omega | (simp only [List.length_append, List.length_nil, List.length_cons, Int.toNat_natCast] at *; omega) | assumption
 rintro _ whs53 ⟨A54, c55, L1_56, rfl, hs53, ho57⟩
 replace hs53 := St.lend (hs49.fr L24) hs53
 refine ⟨_, rfl, ?_⟩
 replace hs53 := St.back [_] hs53
 refine WL.nil ⟨((hs53.rm L1_56).rm L48), WH.rn [8] ((hs53.rm L1_56).rm L48) [] rfl rfl (WH.dn (hK45 _ _ (WC.ret (retV1 rfl (resV.tmp rfl) ?_))))⟩
 have hx_ := OwnF.eqOf (xs := b ++ winL x.dat) ho57 (by rw [p1, List.take_of_length_le (by omega)]; unfold winL; simp only [Int.toNat_natCast, List.append_assoc]; rw [← hT_]; rfl)
 rw [← hx_]
 first | exact ⟨_, _, _, rfl, (St.keep1 (hs53.fr L1_56)), ho57⟩ | exact ⟨A54, c55, _, by rw [OwnF.len_ ho57], (St.keep1 (hs53.fr L1_56)), by rw [OwnF.len_ ho57]; exact ho57⟩
theorem k81_ (n_Pane : Int) (n_Down : Bool) (n_First : Int) (w : World) :
    Calls Tryz.prog 168 #[.agg #[i64 n_Pane, .bool n_Down, i64 n_First]] w fun e w' => e = .returned (.bool (!decide (n_Pane = 0))) ∧ St w [] [] w' := by
 refine enter 6 Tryz.func168 rfl Tryz.ntmps168 rfl rfl ?_
 have hs1 := St.init w
 refine WC.sr (WL.bx hs1 rfl (fun b2 _ hs3 => WL.r 1 hs3 [] rfl (WL.nil (WC.r1 hs3 [0] rfl (WC.ret (rtv rfl rfl hs3 ?_))))))
 first | rfl | simp
theorem k82_ (m_ : Nat) : ∀ (A_t : Option Addr) (n_t c_t : Nat) (t : List NodeD) (at_ : Int) (w : World) (f_t : SlF encNode w A_t n_t t) (hn : n_t ≤ 268435456) (hm_ : (if at_ < 0 then 0 else ((n_t : Int) - at_).toNat) = m_), Calls Tryz.prog 165 #[.slice A_t n_t c_t, i64 at_] w fun e w' => e = .returned (.int .i64 (endI t at_)) ∧ St w [] [] w' := by
 induction m_ using Nat.strongRecOn with
 | ind m_ IH =>
  intro A_t n_t c_t t at_ w f_t hn hm_
  have hl := f_t.len
  have hr := @endI_range t (at_ + 1)
  refine enter 47 Tryz.func165 rfl Tryz.ntmps165 rfl rfl ?_
  have hs1 := St.init w
  refine WC.r1 hs1 [] rfl (WC.seq (fun K2 hK2 => WC.sr (WL.r 3 hs1 [] rfl (WL.pO tbk 4 Acts.nil hs1 [] rfl rfl rfl rfl (fun g_ => trivial) (WL.nil ?_)))))
  refine WC.cq rfl (fun h3 qh3 => ?_) (fun h3 qh3 => ?_)
  ·refine WC.r1 hs1 [] rfl (WC.ret (tkR ?_))
   clear hK2
   refine rtv rfl rfl hs1 ?_
   rw [endI_out (by (try simp at qh3); omega)]
  obtain ⟨i, rfl⟩ : ∃ i : Nat, at_ = (i : Int) := ⟨at_.toNat, by omega⟩
  have hi : i < t.length := by omega
  rw [if_neg (by omega)] at hm_
  refine WC.skip (hK2 _ _ (WC.seq (fun K4 hK4 => WC.sr (WL.r 2 hs1 [] rfl ?_))))
  refine WL.val rfl rfl rfl (Run.idxK (i) Tryz.runUnderlying56 Tryz.sizeOf103 rfl rfl rfl ?_ ?_ ?_) ?_
  · exact SlF.some_ (SlF.st0 f_t hs1)
  · omega
  · omega
  refine WL.val rfl rfl rfl (Run.loadA Tryz.isAgg103 Tryz.sizeOf103 rfl rfl (SlF.whole (SlF.st0 f_t hs1) ?_)) ?_
  · omega
  refine WL.al hs1 Tryz.zeroValue103 rfl rfl (fun b5 _ hs6 => WL.st tbk hs6 0 rfl rfl (fun _ hs7 => WL.nil (WC.block (WC.sr (WL.r 1 hs7 [0] rfl (WL.cl Tryz.call168 rfl (k81_ _ _ _ _) ?_))))))
  rintro _ whs8 ⟨rfl, hs8⟩
  replace hs8 := hs7.call0 hs8
  refine ⟨_, rfl, WL.r 1 hs8 [] rfl (WL.nil (WC.cq rfl (fun h9 qh9 => ?_) (fun h9 qh9 => ?_)))⟩
  ·have hp : (gat encNode t i).Pane ≠ 0 := by simpa using qh9
   refine WC.seq (fun K10 hK10 => WC.sr (WL.r 2 hs8 [0] rfl (WL.cl Tryz.call59 rfl (k1_ _ _) ?_)))
   rintro _ whs11 ⟨rfl, hs11⟩
   replace hs11 := hs8.call0 hs11
   refine ⟨_, rfl, WL.r 2 hs11 [] rfl (WL.pO tbk 2 Acts.nil hs11 [0] rfl rfl rfl rfl (fun g_ => ⟨rfl, trivial⟩) (WL.r 1 hs11 [] rfl (WL.pO tbk 3 Acts.nil hs11 [0] rfl rfl rfl rfl (fun g_ => ⟨rfl, trivial⟩) (WL.nil (WC.cq rfl (fun h12 qh12 => ?_) (fun h12 qh12 => ?_))))))⟩
   ·refine WC.r1 hs11 [] rfl (WC.ret (tkR (ibR (tkR ?_))))
    clear hK10 hK4
    refine rtv rfl rfl hs11 ?_
    rw [endI_leaf hi hp, if_neg (by simp [leafOk]; simp at qh12; grind)]
   refine WC.skip (hK10 _ _ (WC.r1 hs11 [] rfl (WC.ret (ibR (tkR ?_)))))
   clear hK4
   refine rtv rfl rfl hs11 ?_
   rw [endI_leaf hi hp, if_pos (by simp [leafOk]; (try simp at qh12); grind)]
  have hp : (gat encNode t i).Pane = 0 := by simpa using qh9
  refine WC.sr (WL.r 2 hs8 [0] rfl (WL.cl Tryz.call58 rfl (k0_ _ _ _ _) ?_))
  rintro _ whs13 ⟨rfl, hs13⟩
  replace hs13 := hs8.call0 hs13
  refine ⟨_, rfl, WL.r 2 hs13 [] rfl (WL.nil (WC.cq rfl (fun h14 qh14 => ?_) (fun h14 qh14 => ?_)))⟩
  ·refine WC.r1 hs13 [] rfl (WC.ret (ibR (tkR ?_)))
   clear hK4
   refine rtv rfl rfl hs13 ?_
   rw [endI_bad hi hp (within_not.2 qh14)]
  refine WC.skip (hK4 _ _ (WC.sr (WL.r 4 hs13 [] rfl ?_)))
  refine WL.cl Tryz.call165 rfl (IH _ ?_ _ _ _ _ _ _ (SlF.st0 f_t hs13) ?_ rfl) ?_
  · (rw [← hm_]; (repeat' split) <;> omega)
  · exact hn
  rintro _ whs15 ⟨rfl, hs15⟩
  replace hs15 := hs13.call0 hs15
  refine ⟨_, rfl, WL.cl Tryz.call165 rfl (IH _ ?_ _ _ _ _ _ _ (SlF.st0 f_t hs15) ?_ rfl) ?_⟩
  · (rw [← hm_]; (repeat' split) <;> omega)
  · exact hn
  rintro _ whs16 ⟨rfl, hs16⟩
  replace hs16 := hs15.call0 hs16
  refine ⟨_, rfl, WL.r 1 hs16 [] rfl (WL.nil (WC.ret (rtv rfl rfl hs16 ?_)))⟩
  rw [endI_split hi hp (within_iff.2 qh14)]
theorem k83_ (A_t : Option Addr) (n_t c_t : Nat) (t : List NodeD) (at_ : Int) (w : World) (f_t : SlF encNode w A_t n_t t) (hn : n_t ≤ 268435456) :
    Calls Tryz.prog 165 #[.slice A_t n_t c_t, i64 at_] w fun e w' => e = .returned (.int .i64 (endI t at_)) ∧ St w [] [] w' := k82_ _ A_t n_t c_t t at_ w f_t hn rfl
theorem k84_ (A_t : Option Addr) (n_t c_t : Nat) (t : List NodeD) (w : World) (f_t : SlF encNode w A_t n_t t) (hn : n_t ≤ 268435456) :
    Calls Tryz.prog 107 #[.slice A_t n_t c_t] w fun e w' => ∃ A c L1, e = .returned (.slice A (panesL t).length c) ∧ St w [] L1 w' ∧ OwnF encI 3 (.slice A (panesL t).length c) (panesL t) L1 := by
 have hl := f_t.len
 refine enter 22 Tryz.func107 rfl Tryz.ntmps107 rfl rfl ?_
 have hs1 := St.init w
 refine WC.r1 hs1 [] rfl (WC.sr (WL.buildF (F := encI) hs1 ([]) Tryz.runUnderlying60 Tryz.sizeOf3 Tryz.zeroValue3 rfl rfl rfl rfl rfl rfl rfl rfl rfl rfl rfl rfl (fun A5 c6 L2 whs3 hs3 ho4 => WL.r 1 hs3 [] rfl (WL.nil (WC.seq (fun K7 hK7 => WC.r1 hs3 [] rfl (WC.block ?_)))))))
 refine WC.lO [2, 7, 8] rfl hs3 (fun k_ f L_ => ∃ (zs : List Int) (i : Nat) (A8 : Option Addr) (c9 : Nat), k_ = n_t - i ∧ (i ≤ n_t) ∧ (zs = panesL (t.take i)) ∧ OwnF encI 3 (.slice A8 (zs.length) c9) (zs) L_ ∧ Sub [(3, .slice A8 (zs.length) c9), (9, .int .i64 i)] f) (((fun (zs : List Int) (i : Nat) => n_t - i) ([]) (0))) ?_ ?_
 ·refine ⟨[], 0, _, _, rfl, ?_, ?_, ho4, ⟨rfl, rfl, trivial⟩⟩
  · exact Nat.zero_le _
  · simp [panesL]
 clear hs3
 rintro _ f w L10 ⟨zs, i, A8, c9, rfl, p0, p1, ho11, hG⟩ hF hs12
 refine WC.sub _ (hG.app hF) ?_
 clear hG hF
 have hzl : zs.length ≤ n_t := by rw [p1]; have := panesL_len (t.take i); rw [List.length_take] at this; omega
 refine WC.r1 hs12 [] rfl (WC.seq (fun K13 hK13 => ?_))
 refine WC.cD rfl (fun qh14 => ?_) (fun qh14 => ?_)
 ·refine WC.skip (hK13 _ _ (WC.seq (fun K15 hK15 => WC.block (WC.sr ?_))))
  refine WL.val rfl rfl rfl (Run.idxN Tryz.runUnderlying56 Tryz.sizeOf103 rfl rfl rfl ?_ ?_ ?_) ?_
  · exact SlF.some_ (SlF.st0 f_t hs12)
  · omega
  · omega
  refine WL.val rfl rfl rfl (Run.loadA Tryz.isAgg103 Tryz.sizeOf103 rfl rfl (SlF.whole (SlF.st0 f_t hs12) ?_)) ?_
  · omega
  refine WL.al hs12 Tryz.zeroValue103 rfl rfl (fun b16 _ hs17 => WL.st tbk hs17 0 rfl rfl (fun _ hs18 => WL.nil (WC.sr (WL.r 1 hs18 [0] rfl (WL.cl Tryz.call168 rfl (k81_ _ _ _ _) ?_)))))
  rintro _ whs19 ⟨rfl, hs19⟩
  replace hs19 := hs18.call0 hs19
  refine ⟨_, rfl, WL.nil (WC.cq rfl (fun h20 qh20 => ?_) (fun h20 qh20 => ?_))⟩
  ·have hp : (gat encNode t i).Pane ≠ 0 := by (try simp at qh20); omega
   refine WC.region (WL.r 3 hs19 [0] rfl (WL.buildSlice hs19 Tryz.runUnderlying60 Tryz.sizeOf3 Tryz.zeroValue3 rfl rfl rfl rfl rfl rfl rfl rfl rfl rfl (fun b21 whs22 hs22 => ?_)))
   refine WL.appendG (hs22.fr L10) ho11 (srcI1 Tryz.underlying60 (hs22.own _ (nthL_mem (i := 0) rfl)).1) Tryz.underlying60 inf3 rfl rfl rfl rfl rfl rfl rfl rfl rfl rfl ?_ (fun A26 c27 L23 whs24 hs24 ho25 => ?_)
   · simp; omega
   replace hs24 := St.back [_, _] hs24
   refine WL.r 1 hs24 [] rfl (WL.nil (hK15 _ _ (WC.region (WL.r 2 hs24 [] rfl (WL.nil (tkN ?_))))))
   replace hs24 := hs24.d1.d1
   refine ⟨sbF rfl, _, hs24, _, ?_, _, i + 1, _, _, rfl, ?_, ?_, ho25, ⟨rfl, rfl, trivial⟩⟩
   · omega
   · omega
   · rw [panesL_take (by omega), p1]; first | (rw [if_pos hp]) | (rw [if_neg (by simpa using hp), List.append_nil])
  have hp : (gat encNode t i).Pane = 0 := by simpa using qh20
  refine WC.skip (hK15 _ _ (WC.region (WL.r 2 hs19 [] rfl (WL.nil (tkN ?_)))))
  replace hs19 := hs19.d1
  refine ⟨sbF rfl, _, hs19, _, ?_, _, i + 1, _, _, rfl, ?_, ?_, ho11, ⟨rfl, rfl, trivial⟩⟩
  · omega
  · omega
  · rw [panesL_take (by omega), p1]; first | (rw [if_pos hp]) | (rw [if_neg (by simpa using hp), List.append_nil])
 refine WC.exit (hK7 _ _ (WC.r1 hs12 [] rfl (WC.ret (retV1 rfl (resV.tmp rfl) ?_))))
 have hx_ := OwnF.eqOf (xs := panesL t) ho11 (by rw [p1, List.take_of_length_le (by omega)])
 rw [← hx_]
 first | exact ⟨_, _, _, rfl, (St.keep1 hs12), ho11⟩ | exact ⟨A8, c9, _, by rw [OwnF.len_ ho11], (St.keep1 hs12), by rw [OwnF.len_ ho11]; exact ho11⟩
theorem k85_ (A_t : Option Addr) (n_t c_t : Nat) (t : List NodeD) (at_ : Nat) (w : World) (f_t : SlF encNode w A_t n_t t) (hn : n_t ≤ 268435456) (ha : at_ ≤ 1099511627776) :
    Calls Tryz.prog 161 #[.slice A_t n_t c_t, .int .i64 at_] w fun e w' => e = .returned (.int .i64 (sEnd t at_)) ∧ St w [] [] w' := by
 have hl := f_t.len
 refine enter 28 Tryz.func161 rfl Tryz.ntmps161 rfl rfl ?_
 have hs1 := St.init w
 refine WC.r1 hs1 [] rfl (WC.r1 hs1 [] rfl (WC.seq (fun K2 hK2 => WC.r1 hs1 [] rfl (WC.block ?_))))
 refine WC.lS [0] rfl hs1 (fun k_ f w' => ∃ (i k : Nat), k_ = n_t - i ∧ (at_ ≤ i) ∧ (1 ≤ k) ∧ (k ≤ 1 + (i - at_)) ∧ (i ≤ n_t ∨ i = at_) ∧ (needGo 1 (t.drop at_) = needGo k (t.drop i)) ∧ Sub [(6, .int .i64 i), (5, .int .i64 k)] f) ((fun (i k : Nat) => n_t - i) (at_) (1)) ?_ ?_
 ·refine ⟨at_, 1, rfl, ?_, ?_, ?_, ?_, ?_, ⟨rfl, ?_, trivial⟩⟩
  · exact Nat.le_refl _
  · exact Nat.le_refl _
  · omega
  · exact Or.inr rfl
  · rfl
  · rfl
 clear hs1
 rintro _ f w ⟨i, k, rfl, p0, p1, p2, p3, p4, hG⟩ hF hs3
 refine WC.sub _ (hG.app hF) ?_
 clear hG hF
 refine WC.seq (fun K4 hK4 => WC.r1 hs3 [] rfl ?_)
 refine WC.cD rfl (fun qh5 => ?_) (fun qh5 => ?_)
 ·refine WC.skip (hK4 _ _ (WC.seq (fun K6 hK6 => WC.block (WC.seq (fun K7 hK7 => WC.sr (WL.r 2 hs3 [] rfl ?_))))))
  refine WL.val rfl rfl rfl (Run.idxN Tryz.runUnderlying56 Tryz.sizeOf103 rfl rfl rfl ?_ ?_ ?_) ?_
  · exact SlF.some_ (SlF.st0 f_t hs3)
  · omega
  · omega
  refine WL.val rfl rfl rfl (Run.fieldO Tryz.runUnderlying103 rfl rfl rfl Tryz.sizeOf3 rfl) (WL.val rfl rfl rfl (Run.load Tryz.isAgg3 rfl rfl (SlF.fld (SlF.st0 f_t hs3) ?_ rfl)) ?_)
  · omega
  refine WL.r 1 hs3 [] rfl (WL.nil (WC.cD rfl (fun qh8 => ?_) (fun qh8 => ?_)))
  ·have hp : (gat encNode t i).Pane = 0 := qh8
   refine WC.region (WL.r 3 hs3 [] rfl (WL.nil (hK7 _ _ (WC.r1 hs3 [] rfl ?_))))
   refine WC.cD rfl (fun qh9 => ?_) (fun qh9 => ?_)
   ·refine WC.r1 hs3 [] rfl (WC.ret (ibR (tkR (tkR (ibR (tkR ?_))))))
    clear hK6 hK2
    refine rtv rfl rfl hs3 ?_
    rw [sEnd, p4, nat_drop (by omega), needGo]; first | (exfalso; omega) | (rw [if_neg hp, if_pos (by omega)]; simp [endOfL]; omega)
   refine WC.skip (hK6 _ _ (WC.region (WL.r 3 hs3 [] rfl (WL.nil (tkN ?_)))))
   refine ⟨sbF rfl, hs3, _, ?_, i + 1, (k + 1), rfl, ?_, ?_, ?_, ?_, ?_, ⟨rfl, ?_, trivial⟩⟩
   · omega
   · omega
   · omega
   · omega
   · omega
   · rw [p4, nat_drop (by omega), needGo]; first | (rw [if_pos hp, if_neg (by omega)]) | (rw [if_neg hp, if_neg (by omega)])
   · first | rfl | exact congrArg (fun z => some (Value.int _ z)) (by omega)
  have hp : ¬ (gat encNode t i).Pane = 0 := qh8
  refine WC.region (WL.r 3 hs3 [] rfl (WL.nil (hK7 _ _ (WC.r1 hs3 [] rfl ?_))))
  refine WC.cD rfl (fun qh10 => ?_) (fun qh10 => ?_)
  ·refine WC.r1 hs3 [] rfl (WC.ret (ibR (tkR (tkR (ibR (tkR ?_))))))
   clear hK6 hK2
   refine rtv rfl rfl hs3 ?_
   rw [sEnd, p4, nat_drop (by omega), needGo]; first | (exfalso; omega) | (rw [if_neg hp, if_pos (by omega)]; simp [endOfL]; omega)
  refine WC.skip (hK6 _ _ (WC.region (WL.r 3 hs3 [] rfl (WL.nil (tkN ?_)))))
  refine ⟨sbF rfl, hs3, _, ?_, i + 1, (k - 1), rfl, ?_, ?_, ?_, ?_, ?_, ⟨rfl, ?_, trivial⟩⟩
  · omega
  · omega
  · omega
  · omega
  · omega
  · rw [p4, nat_drop (by omega), needGo]; first | (rw [if_pos hp, if_neg (by omega)]) | (rw [if_neg hp, if_neg (by omega)])
  · first | rfl | exact congrArg (fun z => some (Value.int _ z)) (by omega)
 refine WC.exit (hK2 _ _ (WC.r1 hs3 [] rfl (WC.ret (rtv rfl rfl hs3 ?_))))
 rw [sEnd, p4, List.drop_eq_nil_of_le (by omega)]; simp [needGo, endOfL]
theorem k86_ (A_s : Option Addr) (n_s c_s : Nat) (s : List Int) (w : World) (f_s : SlF encI w A_s n_s s) (hn : n_s ≤ 268435456) :
    Calls Tryz.prog 149 #[.slice A_s n_s c_s] w fun e w' => ∃ A c L1, e = .returned (.slice A (s).length c) ∧ St w [] L1 w' ∧ OwnF encI 3 (.slice A (s).length c) (s) L1 := by
 have hl := f_s.len
 refine enter 8 Tryz.func149 rfl Tryz.ntmps149 rfl rfl ?_
 have hs1 := St.init w
 refine WC.r1 hs1 [] rfl (WC.seq (fun K2 hK2 => WC.sr (WL.r 1 hs1 [] rfl (WL.val rfl rfl rfl (Run.eqlNil Tryz.underlying60 rfl rfl rfl) (WL.nil ?_)))))
 refine WC.cq rfl (fun h3 qh3 => ?_) (fun h3 qh3 => ?_)
 ·obtain rfl : A_s = none := by simpa using qh3
  have h0 : n_s = 0 := SlF.none_ f_s
  have hs : s = [] := List.eq_nil_of_length_eq_zero (by omega)
  refine WC.r1 hs1 [] rfl (WC.ret (tkR ?_))
  clear hK2
  refine retV1 rfl (resV.tmp rfl) ?_
  have hx_ := OwnF.eqOf (xs := s) (OwnF.nil encI 3) (by rw [hs])
  rw [← hx_]
  exact ⟨_, _, _, rfl, hs1.nil, (OwnF.nil encI 3)⟩
 refine WC.skip (hK2 _ _ (WC.sr (WL.buildF (F := encI) hs1 ([]) Tryz.runUnderlying60 Tryz.sizeOf3 Tryz.zeroValue3 rfl rfl rfl rfl rfl rfl rfl rfl rfl rfl rfl rfl (fun A7 c8 L4 whs5 hs5 ho6 => WL.r 1 hs5 [] rfl ?_))))
 refine WL.appendG hs5 ho6 (SlF.src (SlF.st0 f_s hs5) Tryz.underlying60) Tryz.underlying60 inf3 rfl rfl rfl rfl rfl rfl rfl rfl rfl rfl ?_ (fun A12 c13 L9 whs10 hs10 ho11 => ?_)
 · simp; omega
 refine WL.r 1 hs10 [] rfl (WL.nil (WC.ret (retV1 rfl (resV.tmp rfl) ?_)))
 have hx_ := OwnF.eqOf (xs := s) ho11 (by simp)
 rw [← hx_]
 first | exact ⟨_, _, _, rfl, (St.keep1 hs10), ho11⟩ | exact ⟨A12, c13, _, by rw [OwnF.len_ ho11], (St.keep1 hs10), by rw [OwnF.len_ ho11]; exact ho11⟩
theorem k87_ (A_s : Option Addr) (n_s c_s : Nat) (s : List Int) (x : Int) (w : World) (f_s : SlF encI w A_s n_s s) (hn : n_s ≤ 1099511627776) :
    Calls Tryz.prog 105 #[.slice A_s n_s c_s, i64 x] w fun e w' => e = .returned (.int .i64 (findI (fun z => decide (x = z)) s)) ∧ St w [] [] w' := by
 refine enter 19 Tryz.func105 rfl Tryz.ntmps105 rfl rfl ?_
 have hs1 := St.init w
 refine WC.r1 hs1 [] rfl (WC.seq (fun K2 hK2 => WC.r1 hs1 [] rfl (WC.block ?_)))
 refine WC.lS [0, 1, 7] rfl hs1 (fun k_ f w' => ∃ (i : Nat), k_ = n_s - i ∧ (i ≤ n_s) ∧ (∀ j, j < i → (fun z => decide (x = z)) (iat s j) = false) ∧ Sub [(8, .int .i64 i)] f) ((fun (i : Nat) => n_s - i) (0)) ?_ ?_
 ·refine ⟨0, rfl, ?_, ?_, ⟨rfl, trivial⟩⟩
  · exact Nat.zero_le _
  · exact fun j hj => absurd hj (by omega)
 clear hs1
 rintro _ f w ⟨i, rfl, p0, p1, hG⟩ hF hs3
 refine WC.sub _ (hG.app hF) ?_
 clear hG hF
 refine WC.r1 hs3 [] rfl (WC.seq (fun K4 hK4 => ?_))
 refine WC.cq rfl (fun h5 qh5 => ?_) (fun h5 qh5 => ?_)
 ·refine WC.skip (hK4 _ _ (WC.seq (fun K6 hK6 => WC.block (WC.r1 hs3 [] rfl (WC.sr (WL.r 3 hs3 [] rfl ?_))))))
  refine WL.val rfl rfl rfl (Run.idxN Tryz.runUnderlying60 Tryz.sizeOf3 rfl rfl rfl ?_ ?_ ?_) ?_
  · exact SlF.some_ (SlF.st0 f_s hs3)
  · omega
  · omega
  refine WL.val rfl rfl rfl (Run.load Tryz.isAgg3 rfl rfl (SlF.one1 (SlF.st0 f_s hs3) ?_ rfl)) ?_
  · omega
  refine WL.r 1 hs3 [] rfl (WL.nil (WC.cq rfl (fun h7 qh7 => ?_) (fun h7 qh7 => ?_)))
  ·refine WC.r1 hs3 [] rfl (WC.ret (ibR (tkR (tkR (ibR (tkR ?_))))))
   clear hK6 hK2
   refine rtv rfl rfl hs3 ?_
   rw [findI_some (F := encI) (i := i) (by rw [f_s.len]; omega) p1 h7]
  refine WC.skip (hK6 _ _ (WC.region (WL.r 2 hs3 [] rfl (WL.nil (tkN ?_)))))
  refine ⟨sbF rfl, hs3, _, ?_, i + 1, rfl, ?_, ?_, ⟨rfl, trivial⟩⟩
  · omega
  · omega
  · intro j hj; rcases Nat.lt_or_ge j i with h_ | h_
    · exact p1 j h_
    · obtain rfl : j = i := by omega
      exact h7
 refine WC.exit (hK2 _ _ (WC.r1 hs3 [] rfl (WC.ret (rtv rfl rfl hs3 ?_))))
 rw [findI_none (F := encI) (fun j hj => p1 j (by rw [f_s.len] at hj; omega))]
theorem k88_ (A_s : Option Addr) (n_s c_s : Nat) (s : List Int) (x : Int) (w : World) (f_s : SlF encI w A_s n_s s) (hn : n_s ≤ 549755813888) :
    Calls Tryz.prog 46 #[.slice A_s n_s c_s, i64 x] w fun e w' => e = .returned (.bool (hasI s x)) ∧ St w [] [] w' := by
 refine enter 9 Tryz.func46 rfl Tryz.ntmps46 rfl rfl ?_
 have hs1 := St.init w
 refine WC.r1 hs1 [] rfl (WC.sr (WL.r 2 hs1 [] rfl (WL.cl Tryz.call105 rfl (k87_ _ _ _ _ _ _ (SlF.st0 f_s hs1) ?_) ?_)))
 · first | assumption | rfl | omega
 rintro _ whs2 ⟨rfl, hs2⟩
 replace hs2 := hs1.call0 hs2
 refine ⟨_, rfl, WL.r 2 hs2 [] rfl (WL.nil (WC.ret (rtv rfl rfl hs2 ?_)))⟩
 rw [← hasI_find]
theorem k89_ (A_l : Option Addr) (n_l c_l : Nat) (l : List Int) (x : Int) (w : World) (f_l : SlF encI w A_l n_l l) (hn : n_l ≤ 549755813888) :
    Calls Tryz.prog 39 #[.slice A_l n_l c_l, i64 x] w fun e w' => e = .returned (.bool (hasI l x)) ∧ St w [] [] w' := by
 have hl := f_l.len
 refine enter 17 Tryz.func39 rfl Tryz.ntmps39 rfl rfl ?_
 have hs1 := St.init w
 refine WC.r1 hs1 [] rfl (WC.seq (fun K2 hK2 => WC.r1 hs1 [] rfl (WC.block ?_)))
 refine WC.lS [1, 7, 8] rfl hs1 (fun k_ f w' => ∃ (i : Nat), k_ = n_l - i ∧ (i ≤ n_l) ∧ (∀ j, j < i → iat l j ≠ x) ∧ Sub [(9, .int .i64 i)] f) ((fun (i : Nat) => n_l - i) (0)) ?_ ?_
 ·refine ⟨0, rfl, ?_, ?_, ⟨rfl, trivial⟩⟩
  · exact Nat.zero_le _
  · exact fun j hj => absurd hj (by omega)
 clear hs1
 rintro _ f w ⟨i, rfl, p0, p1, hG⟩ hF hs3
 refine WC.sub _ (hG.app hF) ?_
 clear hG hF
 refine WC.r1 hs3 [] rfl (WC.seq (fun K4 hK4 => ?_))
 refine WC.cD rfl (fun qh5 => ?_) (fun qh5 => ?_)
 ·refine WC.skip (hK4 _ _ (WC.seq (fun K6 hK6 => WC.block (WC.sr ?_))))
  refine WL.val rfl rfl rfl (Run.idxN Tryz.runUnderlying60 Tryz.sizeOf3 rfl rfl rfl ?_ ?_ ?_) ?_
  · exact SlF.some_ (SlF.st0 f_l hs3)
  · omega
  · omega
  refine WL.val rfl rfl rfl (Run.load Tryz.isAgg3 rfl rfl (SlF.one1 (SlF.st0 f_l hs3) ?_ rfl)) ?_
  · omega
  refine WL.r 1 hs3 [] rfl (WL.nil (WC.r1 hs3 [] rfl (WC.cD rfl (fun qh7 => ?_) (fun qh7 => ?_))))
  ·refine WC.r1 hs3 [] rfl (WC.ret (ibR (tkR (tkR (ibR (tkR ?_))))))
   clear hK6 hK2
   refine rtv rfl rfl hs3 ?_
   congr 1; symm; unfold hasI; rw [decide_eq_true_eq]; rw [← qh7]; exact gat_mem (F := encI) (by omega)
  refine WC.skip (hK6 _ _ (WC.region (WL.r 2 hs3 [] rfl (WL.nil (tkN ?_)))))
  refine ⟨sbF rfl, hs3, _, ?_, i + 1, rfl, ?_, ?_, ⟨rfl, trivial⟩⟩
  · omega
  · omega
  · intro j hj; rcases Nat.lt_or_ge j i with h_ | h_
    · exact p1 j h_
    · obtain rfl : j = i := by omega
      exact qh7
 refine WC.exit (hK2 _ _ (WC.r1 hs3 [] rfl (WC.ret (rtv rfl rfl hs3 ?_))))
 congr 1; symm; unfold hasI; rw [decide_eq_false_iff_not]; exact hasI_not (fun j hj => p1 j (by omega))
theorem k90_ (A_t : Option Addr) (n_t c_t : Nat) (t : List NodeD) (w : World) (f_t : SlF encNode w A_t n_t t) (hn : n_t ≤ 268435456) :
    Calls Tryz.prog 101 #[.slice A_t n_t c_t] w fun e w' => e = .returned (.bool (treeOk t)) ∧ St w [] [] w' := by
 have hl := f_t.len
 refine enter 78 Tryz.func101 rfl Tryz.ntmps101 rfl rfl ?_
 have hs1 := St.init w
 refine WC.r1 hs1 [] rfl (WC.seq (fun K2 hK2 => WC.sr (WL.r 4 hs1 [] rfl ?_)))
 apply WL.gO 5 Acts.nil hs1 rfl
 ·intro g3 J4
  have qg3 := g3
  try simp only [bf, within_iff, within_not] at qg3
  refine WL.runA tbk 1 (Acts.nil.cons (j := 3) rfl g3) hs1 [] rfl trivial (WL.call (wantF rfl g3) rfl rfl (Run.call Tryz.call161 rfl rfl rfl) (k85_ _ _ _ _ 0 _ (SlF.st0 f_t hs1) ?_ ?_) ?_)
  iterate 2 omega
  rintro _ whs5 ⟨rfl, hs5⟩
  replace hs5 := hs1.call0 hs5
  refine ⟨_, rfl, WL.runA tbk 3 (Acts.nil.cons (j := 3) rfl g3) hs5 [] rfl trivial (WL.eO 5 Acts.nil J4 hs5 g3 rfl rfl)⟩
 intro _ hs6
 refine WL.nil (WC.cq rfl (fun h7 qh7 => ?_) (fun h7 qh7 => ?_))
 ·have hbad : treeOk t = false := by cases ht : treeOk t with | false => rfl | true => have h1_ := treeOk_len ht; have h2_ := treeOk_sEnd ht; simp at qh7; omega
  refine WC.r1 hs6 [] rfl (WC.ret (tkR ?_))
  clear hK2
  refine rtv rfl rfl hs6 ?_
  rw [hbad]
 refine WC.skip (hK2 _ _ (WC.sr (WL.buildF (F := encI) hs6 ([]) Tryz.runUnderlying60 Tryz.sizeOf3 Tryz.zeroValue3 rfl rfl rfl rfl rfl rfl rfl rfl rfl rfl rfl rfl (fun A11 c12 L8 whs9 hs9 ho10 => WL.r 1 hs9 [] rfl (WL.nil (WC.seq (fun K13 hK13 => WC.r1 hs9 [] rfl ?_)))))))
 refine WC.block (WC.lO [17, 19, 20] rfl hs9 (fun k_ f L_ => ∃ (zs : List Int) (i : Nat) (A14 : Option Addr) (c15 : Nat), k_ = n_t - i ∧ (i ≤ n_t) ∧ (zs = panesL (t.take i)) ∧ ((panesL (t.take i)).Nodup) ∧ (∀ j, j < i → nodeOk (gat encNode t j) = true) ∧ OwnF encI 3 (.slice A14 (zs.length) c15) (zs) L_ ∧ Sub [(3, .slice A14 (zs.length) c15), (21, .int .i64 i)] f) (((fun (zs : List Int) (i : Nat) => n_t - i) ([]) (0))) ?_ ?_)
 ·refine ⟨[], 0, _, _, rfl, ?_, ?_, ?_, ?_, ho10, ⟨rfl, rfl, trivial⟩⟩
  · exact Nat.zero_le _
  · simp [panesL]
  · simp [panesL]
  · exact fun j hj => absurd hj (by omega)
 clear hs9
 rintro _ f w L16 ⟨zs, i, A14, c15, rfl, p0, p1, p2, p3, ho17, hG⟩ hF hs18
 refine WC.sub _ (hG.app hF) ?_
 clear hG hF
 have hzl : zs.length ≤ n_t := by rw [p1]; have := panesL_len (t.take i); rw [List.length_take] at this; omega
 refine WC.r1 hs18 [] rfl (WC.seq (fun K19 hK19 => ?_))
 refine WC.cq rfl (fun h20 qh20 => ?_) (fun h20 qh20 => ?_)
 ·refine WC.skip (hK19 _ _ (WC.seq (fun K21 hK21 => WC.block (WC.sr ?_))))
  refine WL.val rfl rfl rfl (Run.idxN Tryz.runUnderlying56 Tryz.sizeOf103 rfl rfl rfl ?_ ?_ ?_) ?_
  · exact SlF.some_ (SlF.st0 f_t hs18)
  · omega
  · omega
  refine WL.val rfl rfl rfl (Run.loadA Tryz.isAgg103 Tryz.sizeOf103 rfl rfl (SlF.whole (SlF.st0 f_t hs18) ?_)) ?_
  · omega
  refine WL.al hs18 Tryz.zeroValue103 rfl rfl (fun b22 _ hs23 => WL.st tbk hs23 0 rfl rfl (fun _ hs24 => WL.nil (WC.sr (WL.r 4 hs24 [0] rfl (WL.pA tbk 3 Acts.nil hs24 [0] rfl rfl rfl rfl (fun g_ => ⟨rfl, trivial⟩) (WL.r 1 hs24 [] rfl (WL.pA tbk 3 Acts.nil hs24 [0] rfl rfl rfl rfl (fun g_ => ⟨rfl, trivial⟩) ?_)))))))
  refine WL.r 1 hs24 [] rfl (WL.pA tbk 3 Acts.nil hs24 [0] rfl rfl rfl rfl (fun g_ => ⟨rfl, trivial⟩) (WL.r 1 hs24 [] rfl (WL.nil (WC.sr (WL.r 4 hs24 [0] rfl (WL.pA tbk 3 Acts.nil hs24 [0] rfl rfl rfl rfl (fun g_ => ⟨rfl, trivial⟩) (WL.r 1 hs24 [] rfl ?_)))))))
  refine WL.pA tbk 3 Acts.nil hs24 [0] rfl rfl rfl rfl (fun g_ => ⟨rfl, trivial⟩) (WL.r 1 hs24 [] rfl (WL.nil (WC.seq (fun K25 hK25 => WC.sr (WL.r 3 hs24 [] rfl (WL.pA tbk 2 Acts.nil hs24 [] rfl rfl rfl rfl (fun g_ => trivial) (WL.r 1 hs24 [] rfl ?_)))))))
  apply WL.gO 7 Acts.nil hs24 rfl
  ·intro g26 J27
   have qg26 := g26
   try simp only [bf, within_iff, within_not] at qg26
   refine WL.runA tbk 2 (Acts.nil.cons (j := 6) rfl g26) hs24 [] rfl trivial ?_
   apply WL.gA 4 (Acts.nil.cons (j := 6) rfl g26) hs24 rfl
   ·intro g28 J29
    have qg28 := g28
    try simp only [bf, within_iff, within_not] at qg28
    refine WL.runA tbk 3 (Acts.nil.cons (j := 8) rfl g28) hs24 [0] rfl ⟨rfl, trivial⟩ (WL.call (wantT rfl g28) rfl rfl (Run.call Tryz.call39 rfl rfl rfl) (k89_ _ _ _ _ _ _ (SlF.ofOwn ho17 (hs24.ow L16)) ?_) ?_)
    · first | assumption | rfl | omega
    rintro _ whs30 ⟨rfl, hs30⟩
    replace hs30 := hs24.call0 hs30
    refine ⟨_, rfl, WL.eA 4 (Acts.nil.cons (j := 6) rfl g26) J29 hs30 g28 rfl rfl⟩
   intro _ hs31
   exact WL.eO 3 Acts.nil J27 hs31 g26 rfl rfl
  intro _ hs32
  refine WL.nil (WC.cq rfl (fun h33 qh33 => ?_) (fun h33 qh33 => ?_))
  ·have hbad : treeOk t = false := node_bad (i := i) (by omega) (by rw [← p1]; exact h33)
   refine WC.r1 hs32 [] rfl (WC.ret (tkR (ibR (tkR (tkR (ibR (tkR ?_)))))))
   clear hK25 hK21 hK13
   refine rtv rfl rfl hs32 ?_
   rw [hbad]
  obtain ⟨hnode, hnew⟩ := node_step h33
  refine WC.skip (hK25 _ _ (WC.r1 hs32 [] rfl ?_))
  refine WC.cq rfl (fun h34 qh34 => ?_) (fun h34 qh34 => ?_)
  ·have hp := leafB_ne (n := gat encNode t i) h34
   have hnin := hnew h34
   refine WC.region (WL.r 3 hs32 [0] rfl (WL.buildSlice hs32 Tryz.runUnderlying60 Tryz.sizeOf3 Tryz.zeroValue3 rfl rfl rfl rfl rfl rfl rfl rfl rfl rfl (fun b35 whs36 hs36 => ?_)))
   refine WL.appendG (hs36.fr L16) ho17 (srcI1 Tryz.underlying60 (hs36.own _ (nthL_mem (i := 0) rfl)).1) Tryz.underlying60 inf3 rfl rfl rfl rfl rfl rfl rfl rfl rfl rfl ?_ (fun A40 c41 L37 whs38 hs38 ho39 => ?_)
   · simp; omega
   replace hs38 := St.back [_, _] hs38
   refine WL.r 1 hs38 [] rfl (WL.nil (hK21 _ _ (WC.region (WL.r 2 hs38 [] rfl (WL.nil (tkN ?_))))))
   replace hs38 := hs38.d1.d1
   refine ⟨sbF rfl, _, hs38, _, ?_, _, i + 1, _, _, rfl, ?_, ?_, ?_, ?_, ho39, ⟨rfl, rfl, trivial⟩⟩
   · omega
   · omega
   · rw [panesL_take (by omega), p1]; first | (rw [if_pos hp]) | (rw [if_neg (by simpa using hp), List.append_nil])
   · rw [panesL_take (by omega)]; first | (rw [if_pos hp]; exact nodup_snoc p2 (by rw [← p1]; exact hnin)) | (rw [if_neg (by simpa using hp), List.append_nil]; exact p2)
   · intro j hj; rcases Nat.lt_or_ge j i with h_ | h_
     · exact p3 j h_
     · obtain rfl : j = i := by omega
       exact hnode
  have hp := leafB_not (n := gat encNode t i) h34 hnode
  refine WC.skip (hK21 _ _ (WC.region (WL.r 2 hs32 [] rfl (WL.nil (tkN ?_)))))
  replace hs32 := hs32.d1
  refine ⟨sbF rfl, _, hs32, _, ?_, _, i + 1, _, _, rfl, ?_, ?_, ?_, ?_, ho17, ⟨rfl, rfl, trivial⟩⟩
  · omega
  · omega
  · rw [panesL_take (by omega), p1]; first | (rw [if_pos hp]) | (rw [if_neg (by simpa using hp), List.append_nil])
  · rw [panesL_take (by omega)]; first | (rw [if_pos hp]; exact nodup_snoc p2 (by rw [← p1]; exact hnin)) | (rw [if_neg (by simpa using hp), List.append_nil]; exact p2)
  · intro j hj; rcases Nat.lt_or_ge j i with h_ | h_
    · exact p3 j h_
    · obtain rfl : j = i := by omega
      exact hnode
 refine WC.exit (hK13 _ _ (WC.r1 hs18 [] rfl (WC.ret (rtv rfl rfl hs18 ?_))))
 rw [treeOk_mk (by omega) (by omega) (fun j hj => p3 j (by omega)) (by rwa [List.take_of_length_le (by omega)] at p2)]
theorem k91_ (A_t : Option Addr) (n_t c_t : Nat) (t : List NodeD) (w : World) (f_t : SlF encNode w A_t n_t t) (hn : n_t ≤ 268435456) :
    Calls Tryz.prog 40 #[.slice A_t n_t c_t] w fun e w' => ∃ A c L1, e = .returned (.slice A (leavesL t).length c) ∧ St w [] L1 w' ∧ OwnF encI 3 (.slice A (leavesL t).length c) (leavesL t) L1 := by
 have hl := f_t.len
 refine enter 27 Tryz.func40 rfl Tryz.ntmps40 rfl rfl ?_
 have hs1 := St.init w
 refine WC.r1 hs1 [] rfl (WC.sr (WL.buildF (F := encI) hs1 ([]) Tryz.runUnderlying60 Tryz.sizeOf3 Tryz.zeroValue3 rfl rfl rfl rfl rfl rfl rfl rfl rfl rfl rfl rfl (fun A5 c6 L2 whs3 hs3 ho4 => WL.r 1 hs3 [] rfl (WL.nil (WC.seq (fun K7 hK7 => WC.sr (WL.r 1 hs3 [] rfl ?_)))))))
 refine WL.cl Tryz.call101 rfl (k90_ _ _ _ _ _ (SlF.st0 f_t hs3) ?_) ?_
 · first | assumption | rfl | omega
 rintro _ whs8 ⟨rfl, hs8⟩
 replace hs8 := hs3.call0 hs8
 refine ⟨_, rfl, WL.r 1 hs8 [] rfl (WL.nil (WC.cq rfl (fun h9 qh9 => ?_) (fun h9 qh9 => ?_)))⟩
 ·have hok : treeOk t = false := by simpa using qh9
  refine WC.r1 hs8 [] rfl (WC.ret (tkR ?_))
  clear hK7
  refine retV1 rfl (resV.tmp rfl) ?_
  have hx_ := OwnF.eqOf (xs := leavesL t) ho4 (by simp [leavesL, hok])
  rw [← hx_]
  first | exact ⟨_, _, _, rfl, (St.keep1 hs8), ho4⟩ | exact ⟨A5, c6, _, by rw [OwnF.len_ ho4], (St.keep1 hs8), by rw [OwnF.len_ ho4]; exact ho4⟩
 have hok : treeOk t = true := by simpa using qh9
 refine WC.skip (hK7 _ _ (WC.seq (fun K10 hK10 => WC.r1 hs8 [] rfl (WC.block ?_))))
 refine WC.lO [2, 9, 11, 12] rfl hs8 (fun k_ f L_ => ∃ (zs : List Int) (i : Nat) (A11 : Option Addr) (c12 : Nat), k_ = n_t - i ∧ (i ≤ n_t) ∧ (zs = panesL (t.take i)) ∧ OwnF encI 3 (.slice A11 (zs.length) c12) (zs) L_ ∧ Sub [(3, .slice A11 (zs.length) c12), (13, .int .i64 i)] f) (((fun (zs : List Int) (i : Nat) => n_t - i) ([]) (0))) ?_ ?_
 ·refine ⟨[], 0, _, _, rfl, ?_, ?_, ho4, ⟨rfl, rfl, trivial⟩⟩
  · exact Nat.zero_le _
  · simp [panesL]
 clear hs8
 rintro _ f w L13 ⟨zs, i, A11, c12, rfl, p0, p1, ho14, hG⟩ hF hs15
 refine WC.sub _ (hG.app hF) ?_
 clear hG hF
 have hzl : zs.length ≤ n_t := by rw [p1]; have := panesL_len (t.take i); rw [List.length_take] at this; omega
 refine WC.r1 hs15 [] rfl (WC.seq (fun K16 hK16 => ?_))
 refine WC.cD rfl (fun qh17 => ?_) (fun qh17 => ?_)
 ·refine WC.skip (hK16 _ _ (WC.seq (fun K18 hK18 => WC.block (WC.sr ?_))))
  refine WL.val rfl rfl rfl (Run.idxN Tryz.runUnderlying56 Tryz.sizeOf103 rfl rfl rfl ?_ ?_ ?_) ?_
  · exact SlF.some_ (SlF.st0 f_t hs15)
  · omega
  · omega
  refine WL.val rfl rfl rfl (Run.loadA Tryz.isAgg103 Tryz.sizeOf103 rfl rfl (SlF.whole (SlF.st0 f_t hs15) ?_)) ?_
  · omega
  refine WL.al hs15 Tryz.zeroValue103 rfl rfl (fun b19 _ hs20 => WL.st tbk hs20 0 rfl rfl (fun _ hs21 => WL.nil (WC.r1 hs21 [0] rfl ?_)))
  refine WC.cD rfl (fun qh22 => ?_) (fun qh22 => ?_)
  ·have hp : (gat encNode t i).Pane ≠ 0 := by (try simp at qh22); omega
   refine WC.region (WL.r 3 hs21 [0] rfl (WL.buildSlice hs21 Tryz.runUnderlying60 Tryz.sizeOf3 Tryz.zeroValue3 rfl rfl rfl rfl rfl rfl rfl rfl rfl rfl (fun b23 whs24 hs24 => ?_)))
   refine WL.appendG (hs24.fr L13) ho14 (srcI1 Tryz.underlying60 (hs24.own _ (nthL_mem (i := 0) rfl)).1) Tryz.underlying60 inf3 rfl rfl rfl rfl rfl rfl rfl rfl rfl rfl ?_ (fun A28 c29 L25 whs26 hs26 ho27 => ?_)
   · simp; omega
   replace hs26 := St.back [_, _] hs26
   refine WL.r 1 hs26 [] rfl (WL.nil (hK18 _ _ (WC.region (WL.r 2 hs26 [] rfl (WL.nil (tkN ?_))))))
   replace hs26 := hs26.d1.d1
   refine ⟨sbF rfl, _, hs26, _, ?_, _, i + 1, _, _, rfl, ?_, ?_, ho27, ⟨rfl, rfl, trivial⟩⟩
   · omega
   · omega
   · rw [panesL_take (by omega), p1]; first | (rw [if_pos hp]) | (rw [if_neg (by simpa using hp), List.append_nil])
  have hp : (gat encNode t i).Pane = 0 := by have := nodeOk_pane (treeOk_node hok (i := i) (by omega)); simp at qh22; omega
  refine WC.skip (hK18 _ _ (WC.region (WL.r 2 hs21 [] rfl (WL.nil (tkN ?_)))))
  replace hs21 := hs21.d1
  refine ⟨sbF rfl, _, hs21, _, ?_, _, i + 1, _, _, rfl, ?_, ?_, ho14, ⟨rfl, rfl, trivial⟩⟩
  · omega
  · omega
  · rw [panesL_take (by omega), p1]; first | (rw [if_pos hp]) | (rw [if_neg (by simpa using hp), List.append_nil])
 refine WC.exit (hK10 _ _ (WC.r1 hs15 [] rfl (WC.ret (retV1 rfl (resV.tmp rfl) ?_))))
 have hx_ := OwnF.eqOf (xs := leavesL t) ho14 (by simp only [leavesL, hok, if_true]; rw [p1, List.take_of_length_le (by omega)])
 rw [← hx_]
 first | exact ⟨_, _, _, rfl, (St.keep1 hs15), ho14⟩ | exact ⟨A11, c12, _, by rw [OwnF.len_ ho14], (St.keep1 hs15), by rw [OwnF.len_ ho14]; exact ho14⟩
open Go Go.RowKit Go.Sort
theorem mapBlock_get {w : World} {b : Nat} {f : Array Value → Array Value} {k : Nat} : (mapBlock w b f).heap[k]? = if k = b then (w.heap[k]?).map (onCells f) else w.heap[k]? := by
 unfold mapBlock
 simp only [Array.getElem?_modify]
 by_cases h : b = k
 ·subst h; simp
 ·rw [if_neg h, if_neg (fun e => h e.symm)]
theorem rows_int (l : List Int) : rows encI l = l.map (Value.int .i64) := by
 induction l with
 | nil => rfl
 | cons x r ih => rw [rows_cons, ih]; rfl
theorem putCells_row {pre cl : List Value} {zs : List Int} (h : zs.length ≤ cl.length) : putCells (Value.int .i64) pre.length zs.toArray (pre ++ cl).toArray = (pre ++ (rows encI zs ++ cl.drop zs.length)).toArray := by
 apply Array.toList_inj.1
 rw [rows_int]
 apply List.ext_getElem?
 intro k
 simp only [putCells, Array.toList_mapIdx, List.getElem?_mapIdx, List.getElem?_append, List.length_map, List.getElem?_drop, List.size_toArray]
 by_cases hp : k < pre.length
 ·have h1 : ¬ (pre.length ≤ k ∧ k < pre.length + zs.length) := by omega
  simp [hp, h1, List.getElem?_eq_getElem hp]
 ·by_cases hk : k - pre.length < zs.length
  ·have hk' : k - pre.length < cl.length := by omega
   have h1 : pre.length ≤ k ∧ k < pre.length + zs.length := by omega
   simp [hp, hk, h1, List.getElem?_eq_getElem hk', List.getElem?_eq_getElem hk]
  ·have e : zs.length + (k - pre.length - zs.length) = k - pre.length := by omega
   have h1 : ¬ (pre.length ≤ k ∧ k < pre.length + zs.length) := by omega
   simp [hp, hk, h1, e]
theorem sort_own {P : Program} {g3 : TypeId} {fid : FuncId} {v : Value} {xs : List Int} {L : Hp} {w : World} {srt : List Int → List Int} (hperm : ∀ l, (srt l).length = l.length)
  (hs : ∀ (blk off cap : Nat) (zs : List Int) (w : World), Holds (Value.int .i64) w blk off zs.toArray → blk < w.heap.size → zs.length < 4611686018427387904 →
   Calls P fid #[.slice (some ⟨blk, off, none⟩) zs.length cap] w fun e w' => e = .returned (.tuple #[]) ∧ ∃ n os, w' = grow (putRow (Value.int .i64) (Sort.ahead w n) blk off (srt zs).toArray) os)
  (hn : ∀ (p : Option Addr) (cap : Nat) (w : World), Calls P fid #[.slice p 0 cap] w fun e w' => e = .returned (.tuple #[]) ∧ w' = w)
  (h : OwnF encI g3 v xs L) (hh : ∀ p, p ∈ L → w.heap[p.1]? = some p.2) (hx : xs.length ≤ 268435456) :
  Calls P fid #[v] w fun e w' => ∃ L1, e = .returned (.tuple #[]) ∧ St w (L.map (·.1)) L1 w' ∧ OwnF encI g3 v (srt xs) L1 := by
 have hkeys := h.keys
 by_cases h0 : xs.length = 0
 ·obtain ⟨A, c, rfl⟩ := h.shape
  have e : xs = [] := List.eq_nil_of_length_eq_zero h0
  have e2 : srt xs = [] := List.eq_nil_of_length_eq_zero (by rw [hperm]; exact h0)
  rw [h0]
  refine (hn A c w).mono fun e' w' ⟨he, hw⟩ => ?_
  subst hw
  refine ⟨L, he, St.take _ L hh hkeys, ?_⟩
  rw [e2]
  have := h
  rw [h0, e] at this
  exact this
 ·rcases h.2 with ⟨⟨A', hv⟩, h0', rfl⟩ | ⟨g, cap, o, pre, cl, ⟨lo, hi⟩, hv, rfl, hcap, hcm, hcl, ht, hfz, rfl⟩
  ·omega
  ·subst hv
   have hg := hh _ List.mem_cons_self
   simp only at hg
   have hsz : encI.sz = 1 := rfl
   simp only [hsz, Nat.mul_one] at hcl ht
   have hget : ∀ j (hj : j < xs.length), cl[j]? = some (Value.int .i64 xs[j]) := by
    intro j hj
    have : (cl.take xs.length)[j]? = (rows encI xs)[j]? := by rw [ht]
    rw [List.getElem?_take, if_pos hj] at this
    rw [this, rows_int]
    simp [List.getElem?_eq_getElem hj]
   have hold : Holds (Value.int .i64) w g pre.length xs.toArray := by
    intro j hj
    have hj' : j < xs.length := by simpa using hj
    refine ⟨?_, ?_⟩
    ·refine cell_of_heap hg ?_
     have e1 : (pre ++ cl)[pre.length + j]? = cl[j]? := by rw [List.getElem?_append_right (by omega), Nat.add_sub_cancel_left]
     rw [e1, hget j hj']
     simp [hj']
    ·simp only [World.frozen?, hg]
     rw [List.length_append] at hfz
     rcases hfz with h | h
     ·simp; omega
     ·simp; omega
   refine (hs g pre.length cap xs w hold (lt_of_heap hg) (by omega)).mono fun e' w' ⟨he, n, os, hw⟩ => ?_
   have hget' : ∀ k, k < w.heap.size → w'.heap[k]? = (mapBlock (Sort.ahead w n) g (putCells (Value.int .i64) pre.length (srt xs).toArray)).heap[k]? := by
    intro k hk
    rw [hw]
    show ((mapBlock (Sort.ahead w n) g (putCells (Value.int .i64) pre.length (srt xs).toArray)).heap ++ os)[k]? = _
    rw [Array.getElem?_append_left]
    unfold mapBlock
    simpa using hk
   have hsize : w.heap.size ≤ w'.heap.size := by
    rw [hw]
    show _ ≤ ((mapBlock (Sort.ahead w n) g (putCells (Value.int .i64) pre.length (srt xs).toArray)).heap ++ os).size
    unfold mapBlock
    simp [Sort.ahead]
   have hlen := hperm xs
   have hnew : w'.heap[g]? = some (.cells (pre ++ (rows encI (srt xs) ++ cl.drop (srt xs).length)).toArray g3 (lo, hi)) := by
    rw [hget' g (lt_of_heap hg), mapBlock_get, if_pos rfl]
    show (w.heap[g]?).map _ = _
    rw [hg]
    simp only [Option.map_some, onCells]
    rw [putCells_row (by omega)]
   refine ⟨[(g, .cells (pre ++ (rows encI (srt xs) ++ cl.drop (srt xs).length)).toArray g3 (lo, hi))], he, ⟨by rw [hw]; rfl, by rw [hw]; rfl, by rw [hw]; rfl, hsize, fun k hk hT => ?_, fun p hp => ?_, by simp⟩, ?_⟩
   ·rw [hget' k hk, mapBlock_get, if_neg (by intro e; apply hT; simp [e])]
    rfl
   ·simp at hp
    subst hp
    exact ⟨hnew, .inr (by simp)⟩
   ·refine ⟨by rw [rows_len], .inr ⟨g, cap, pre.length, pre, _, (lo, hi), by rw [hlen], rfl, by rw [hlen]; exact hcap, hcm, ?_, ?_, ?_, rfl⟩⟩
    ·rw [List.length_append, rows_len, List.length_drop, hlen, hsz]; omega
    ·rw [hsz, Nat.mul_one, List.take_append_of_le_length (by rw [rows_len, hsz]; omega), List.take_of_length_le (by rw [rows_len, hsz]; omega)]
    ·rcases hfz with h | h
     ·exact .inl h
     ·refine .inr ?_
      rw [List.length_append] at h ⊢
      simp only [List.length_append, rows_len, List.length_drop, hlen, hsz]; omega
open Go.Shelf
open Go.RowKit in
open Go.RowKit Go.Lib in
def Tryz.lays189_ren : Go.Shelf.Ren := ⟨fun | 189 => 166 | 125 => 210 | 257 => 209 | 128 => 258 | 129 => 259 | 294 => 249 | 295 => 250 | 296 => 251 | 297 => 252 | 298 => 253 | 299 => 254 | 216 => 255 | 300 => 256 | 301 => 257 | 328 => 281 | 329 => 282 | 330 => 283 | 331 => 284 | 332 => 285 | 215 => 286 | 343 => 300 | n => n, fun | 28 => 60 | 3 => 3 | 46 => 233 | 0 => 0 | 51 => 266 | 53 => 268 | 4 => 4 | 183 => 260 | 182 => 259 | 131 => 263 | 5 => 5 | 9 => 9 | 218 => 288 | 222 => 292 | 228 => 309 | 229 => 37 | n => n, fun | n => n⟩
theorem Tryz.lays189 : Go.Proofs.Lays.n189 Tryz.prog Tryz.lays189_ren := {
  mixed := by kernel_rfl
  f125 := Tryz.func210.trans (congrArg some (by kernel_rfl))
  f128 := Tryz.func258.trans (congrArg some (by kernel_rfl))
  f129 := Tryz.func259.trans (congrArg some (by kernel_rfl))
  f189 := Tryz.func166.trans (congrArg some (by kernel_rfl))
  f215 := Tryz.func286.trans (congrArg some (by kernel_rfl))
  f216 := Tryz.func255.trans (congrArg some (by kernel_rfl))
  f257 := Tryz.func209.trans (congrArg some (by kernel_rfl))
  f294 := Tryz.func249.trans (congrArg some (by kernel_rfl))
  f295 := Tryz.func250.trans (congrArg some (by kernel_rfl))
  f296 := Tryz.func251.trans (congrArg some (by kernel_rfl))
  f297 := Tryz.func252.trans (congrArg some (by kernel_rfl))
  f298 := Tryz.func253.trans (congrArg some (by kernel_rfl))
  f299 := Tryz.func254.trans (congrArg some (by kernel_rfl))
  f300 := Tryz.func256.trans (congrArg some (by kernel_rfl))
  f301 := Tryz.func257.trans (congrArg some (by kernel_rfl))
  f328 := Tryz.func281.trans (congrArg some (by kernel_rfl))
  f329 := Tryz.func282.trans (congrArg some (by kernel_rfl))
  f330 := Tryz.func283.trans (congrArg some (by kernel_rfl))
  f331 := Tryz.func284.trans (congrArg some (by kernel_rfl))
  f332 := Tryz.func285.trans (congrArg some (by kernel_rfl))
  f343 := Tryz.func300.trans (congrArg some (by kernel_rfl))
  t0 := Tryz.underlying0
  a0 := Tryz.isAgg0
  z0 := Tryz.sizeOf0
  v0 := Tryz.zeroValue0
  t3 := Tryz.underlying3
  a3 := Tryz.isAgg3
  z3 := Tryz.sizeOf3
  v3 := Tryz.zeroValue3
  t4 := Tryz.underlying4
  a4 := Tryz.isAgg4
  z4 := Tryz.sizeOf4
  v4 := Tryz.zeroValue4
  t5 := Tryz.underlying5
  a5 := Tryz.isAgg5
  z5 := Tryz.sizeOf5
  v5 := Tryz.zeroValue5
  t9 := Tryz.underlying9
  a9 := Tryz.isAgg9
  z9 := Tryz.sizeOf9
  v9 := Tryz.zeroValue9
  t28 := Tryz.underlying60
  a28 := Tryz.isAgg60
  z28 := Tryz.sizeOf60
  v28 := Tryz.zeroValue60
  t46 := Tryz.underlying233
  a46 := Tryz.isAgg233
  z46 := Tryz.sizeOf233
  v46 := Tryz.zeroValue233
  t51 := Tryz.underlying266
  a51 := Tryz.isAgg266
  z51 := Tryz.sizeOf266
  v51 := Tryz.zeroValue266
  t53 := Tryz.underlying268
  a53 := Tryz.isAgg268
  z53 := Tryz.sizeOf268
  v53 := Tryz.zeroValue268
  t131 := Tryz.underlying263
  a131 := Tryz.isAgg263
  z131 := Tryz.sizeOf263
  v131 := Tryz.zeroValue263
  t182 := Tryz.underlying259
  a182 := Tryz.isAgg259
  z182 := Tryz.sizeOf259
  v182 := Tryz.zeroValue259
  t183 := Tryz.underlying260
  a183 := Tryz.isAgg260
  z183 := Tryz.sizeOf260
  v183 := Tryz.zeroValue260
  t218 := Tryz.underlying288
  a218 := Tryz.isAgg288
  z218 := Tryz.sizeOf288
  v218 := Tryz.zeroValue288
  t222 := Tryz.underlying292
  a222 := Tryz.isAgg292
  z222 := Tryz.sizeOf292
  v222 := Tryz.zeroValue292
  t228 := Tryz.underlying309
  a228 := Tryz.isAgg309
  z228 := Tryz.sizeOf309
  v228 := Tryz.zeroValue309
  t229 := Tryz.underlying37
  a229 := Tryz.isAgg37
  z229 := Tryz.sizeOf37
  v229 := Tryz.zeroValue37 }
open Go.Sort Go.RowKit in
theorem Tryz.slices_Sort_int (blk off cap : Nat) (zs : List Int) (w : World) (hH : Holds (Value.int .i64) w blk off zs.toArray) (hblk : blk < w.heap.size) (hsz : zs.length < 4611686018427387904) :
    Calls Tryz.prog 166 #[.slice (some ⟨blk, off, none⟩) zs.length cap] w fun e w' =>
      e = .returned (.tuple #[]) ∧ ∃ n os, w' = grow (putRow (Value.int .i64) (Sort.ahead w n) blk off (zs.mergeSort fun x y => decide (x ≤ y)).toArray) os := Any.slices_Sort_int Tryz.lays189 blk off cap zs w hH hblk hsz
open Go.RowKit Go.Lib in
open Go.RowKit Go.Lib in
open Go.RowKit Go.Lib in
open Go.RowKit Go.Lib in
open Go.RowKit Go.Lib in
open Go.RowKit Go.Lib Go.Sort in
open Go.RowKit Go.Lib Go.Sort in
open Go.RowKit Go.Lib Go.Sort in
open Go.RowKit Go.Lib in
open Go.RowKit Go.Lib in
open Go.RowKit Go.Lib Go.Sort in
open Go.RowKit Go.Sort in
theorem Tryz.slices_Sort_int_none (p : Option Addr) (cap : Nat) (w : World) :
    Calls Tryz.prog 166 #[.slice p 0 cap] w fun e w' => e = .returned (.tuple #[]) ∧ w' = w := Any.slices_Sort_int_none Tryz.lays189 p cap w
open Go.RowKit Go.Lib in
open Go.RowKit Go.Lib in
section
theorem k92_ (v_s : Value) (s : List Int) (L_s : Hp) (w : World) (o_s : OwnF encI 3 v_s s L_s) (h_s : Hh w L_s) (hn : s.length ≤ 268435456) :
    Calls Tryz.prog 166 #[v_s] w fun e w' => ∃ L1, e = .returned (.tuple #[]) ∧ St w (L_s.map (·.1)) L1 w' ∧ OwnF encI 3 v_s (sortI s) L1 :=
  sort_own (srt := sortI) sortI_len (fun b o c zs w h1 h2 h3 => Tryz.slices_Sort_int b o c zs w h1 h2 h3) Tryz.slices_Sort_int_none o_s h_s hn
end
theorem k93_ (v_s : Value) (s : List Int) (L_s : Hp) (w : World) (o_s : OwnF encI 3 v_s s L_s) (h_s : Hh w L_s) (hn : s.length ≤ 268435456) :
    Calls Tryz.prog 167 #[v_s] w fun e w' => ∃ m A c, e = .returned (.slice A m c) ∧ St w (L_s.map (·.1)) [] w' ∧ (m = s.length ↔ adjNe s) := by
 obtain ⟨A_s, c_s, rfl⟩ := o_s.shape
 refine enter 61 Tryz.func167 rfl Tryz.ntmps167 rfl rfl ?_
 have hs1 := St.lent1 w L_s o_s h_s
 refine WC.r1 hs1 [] rfl (WC.seq (fun K2 hK2 => WC.r1 hs1 [] rfl ?_))
 refine WC.cq rfl (fun h3 qh3 => ?_) (fun h3 qh3 => ?_)
 ·refine WC.r1 hs1 [] rfl (WC.ret (tkR ?_))
  clear hK2
  refine retV1 rfl (resV.tmp rfl) (⟨_, _, _, rfl, hs1.nil, ⟨fun _ i hi => absurd hi (by omega), fun _ => rfl⟩⟩)
 refine WC.skip (hK2 _ _ (WC.seq (fun K4 hK4 => WC.r1 hs1 [] rfl (WC.block ?_))))
 refine WC.lS [0, 8] rfl hs1 (fun k_ f w' => ∃ (k : Nat), k_ = s.length - k ∧ (1 ≤ k) ∧ (k ≤ s.length) ∧ (∀ j, 1 ≤ j → j < k → iat s j ≠ iat s (j - 1)) ∧ Sub [(3, .int .i64 k)] f) ((fun (k : Nat) => s.length - k) (1)) ?_ ?_
 ·refine ⟨1, rfl, ?_, ?_, ?_, ⟨rfl, trivial⟩⟩
  · exact Nat.le_refl _
  · omega
  · exact fun j h1 h2 => absurd h1 (by omega)
 clear hs1
 rintro _ f w ⟨k, rfl, p0, p1, p2, hG⟩ hF hs5
 refine WC.sub _ (hG.app hF) ?_
 clear hG hF
 refine WC.seq (fun K6 hK6 => WC.r1 hs5 [] rfl ?_)
 refine WC.cq rfl (fun h7 qh7 => ?_) (fun h7 qh7 => ?_)
 ·refine WC.skip (hK6 _ _ (WC.seq (fun K8 hK8 => WC.block (WC.sq1 hs5 (WQ.r 2 [] rfl ?_)))))
  refine WQ.val rfl rfl rfl (fun w_ hs_ => (Run.idxN Tryz.runUnderlying60 Tryz.sizeOf3 rfl rfl rfl ?_ ?_ ?_)) ?_
  · exact SlF.some_ (SlF.ofOwn o_s ((hs_ : St _ _ _ _).ow L_s))
  · first | omega | (simp only [List.length_take, List.length_drop]; omega)
  · first | omega | (simp only [List.length_take, List.length_drop]; omega)
  refine WQ.val rfl rfl rfl (fun w_ hs_ => (Run.load Tryz.isAgg3 rfl rfl (SlF.one1 (SlF.ofOwn o_s ((hs_ : St _ _ _ _).ow L_s)) ?_ rfl))) ?_
  · first | omega | (simp only [List.length_take, List.length_drop]; omega)
  refine WQ.r 3 [] rfl ?_
  refine WQ.val rfl rfl rfl (fun w_ hs_ => (Run.idxK (k - 1) Tryz.runUnderlying60 Tryz.sizeOf3 rfl rfl rfl ?_ ?_ ?_)) ?_
  · exact SlF.some_ (SlF.ofOwn o_s ((hs_ : St _ _ _ _).ow L_s))
  · first | omega | (simp only [List.length_take, List.length_drop]; omega)
  · first | omega | (simp only [List.length_take, List.length_drop]; omega)
  refine WQ.val rfl rfl rfl (fun w_ hs_ => (Run.load Tryz.isAgg3 rfl rfl (SlF.one1 (SlF.ofOwn o_s ((hs_ : St _ _ _ _).ow L_s)) ?_ rfl))) ?_
  · first | omega | (simp only [List.length_take, List.length_drop]; omega)
  refine WQ.r 1 [] rfl (WQ.nil (fun _ (hs9 : St _ _ _ _) => ?_))
  refine WC.cq rfl (fun h10 qh10 => ?_) (fun h10 qh10 => ?_)
  ·have hdup : iat s (k - 1 + 1) = iat s (k - 1) := by rw [show k - 1 + 1 = k by omega]; exact qh10
   refine WC.sr (WL.r 2 hs9 [] rfl ?_)
   have hc_ := OwnF.cap o_s
   refine WL.val rfl rfl rfl (Run.sliceL (k) Tryz.runUnderlying60 Tryz.sizeOf3 rfl rfl rfl ?_ ?_) ?_
   · first | rfl | (omega)
   · refine ⟨?_, ?_, ?_⟩ <;> (omega)
   refine WL.r 1 hs9 [] rfl (WL.nil (WC.seq (fun K11 hK11 => WC.r1 hs9 [] rfl (WC.block ?_))))
   refine WC.lO [4, 8, 10, 11, 12, 13, 16, 17, 18, 19, 20, 21, 22, 23, 24, 25, 26, 27, 28] rfl hs9 (fun k_ f L_ => ∃ (zs : List Int) (j k2 : Nat), k_ = (s.length - k) - j ∧ (1 ≤ j) ∧ (k2 + 1 ≤ k + j) ∧ (k ≤ k2) ∧ (k + j ≤ s.length) ∧ (zs.length = s.length) ∧ OwnF encI 3 (.slice A_s (s.length) c_s) (zs) L_ ∧ Sub [(0, .slice A_s (s.length) c_s), (5, .int .i64 j), (3, .int .i64 k2)] f) (((fun (zs : List Int) (j k2 : Nat) => (s.length - k) - j) (s) (1) (k))) ?_ ?_
   ·refine ⟨s, 1, k, rfl, ?_, ?_, ?_, ?_, ?_, o_s, ⟨rfl, rfl, rfl, trivial⟩⟩
    · exact Nat.le_refl _
    · omega
    · exact Nat.le_refl _
    · omega
    · rfl
   clear hs9
   rintro _ f w L14 ⟨zs, j, k2, rfl, r0, r1, r2, r3, r4, ho15, hG⟩ hF hs16
   refine WC.sub _ (hG.app hF) ?_
   clear hG hF
   refine WC.seq (fun K17 hK17 => WC.r1 hs16 [] rfl ?_)
   refine WC.cq rfl (fun h18 qh18 => ?_) (fun h18 qh18 => ?_)
   ·refine WC.skip (hK17 _ _ (WC.seq (fun K19 hK19 => WC.block (WC.sq1 hs16 (WQ.r 2 [] rfl ?_)))))
    refine WQ.val rfl rfl rfl (fun w_ hs_ => (Run.idxN Tryz.runUnderlying60 Tryz.sizeOf3 rfl rfl rfl ?_ ?_ ?_)) ?_
    · exact SlF.some_ (SlF.cutL (k) (SlF.ofOwn ho15 ((hs_ : St _ _ _ _).ow L14)) (by refine ⟨?_, ?_, ?_⟩ <;> (omega)))
    · first | omega | (simp only [List.length_take, List.length_drop]; omega)
    · first | omega | (simp only [List.length_take, List.length_drop]; omega)
    refine WQ.val rfl rfl rfl (fun w_ hs_ => (Run.load Tryz.isAgg3 rfl rfl (SlF.one1 (SlF.cutL (k) (SlF.ofOwn ho15 ((hs_ : St _ _ _ _).ow L14)) (by refine ⟨?_, ?_, ?_⟩ <;> (omega))) ?_ rfl))) ?_
    · first | omega | (simp only [List.length_take, List.length_drop]; omega)
    refine WQ.r 3 [] rfl ?_
    refine WQ.val rfl rfl rfl (fun w_ hs_ => (Run.idxK (j - 1) Tryz.runUnderlying60 Tryz.sizeOf3 rfl rfl rfl ?_ ?_ ?_)) ?_
    · exact SlF.some_ (SlF.cutL (k) (SlF.ofOwn ho15 ((hs_ : St _ _ _ _).ow L14)) (by refine ⟨?_, ?_, ?_⟩ <;> (omega)))
    · first | omega | (simp only [List.length_take, List.length_drop]; omega)
    · first | omega | (simp only [List.length_take, List.length_drop]; omega)
    refine WQ.val rfl rfl rfl (fun w_ hs_ => (Run.load Tryz.isAgg3 rfl rfl (SlF.one1 (SlF.cutL (k) (SlF.ofOwn ho15 ((hs_ : St _ _ _ _).ow L14)) (by refine ⟨?_, ?_, ?_⟩ <;> (omega))) ?_ rfl))) ?_
    · first | omega | (simp only [List.length_take, List.length_drop]; omega)
    refine WQ.r 1 [] rfl (WQ.nil (fun _ (hs20 : St _ _ _ _) => ?_))
    refine WC.cq rfl (fun h21 qh21 => ?_) (fun h21 qh21 => ?_)
    ·refine WC.sr (WL.r 4 hs20 [] rfl (WL.val rfl rfl rfl (Run.idxN Tryz.runUnderlying60 Tryz.sizeOf3 rfl rfl rfl ?_ ?_ ?_) ?_))
     · exact SlF.some_ (SlF.cutL (k) (SlF.ofOwn ho15 (hs20.ow L14)) (by refine ⟨?_, ?_, ?_⟩ <;> (omega)))
     · first | omega | (simp only [List.length_take, List.length_drop]; omega)
     · first | omega | (simp only [List.length_take, List.length_drop]; omega)
     refine WL.val rfl rfl rfl (Run.load Tryz.isAgg3 rfl rfl (SlF.one1 (SlF.cutL (k) (SlF.ofOwn ho15 (hs20.ow L14)) (by refine ⟨?_, ?_, ?_⟩ <;> (omega))) ?_ rfl)) ?_
     · first | omega | (simp only [List.length_take, List.length_drop]; omega)
     refine WL.val rfl rfl rfl (Run.idxN Tryz.runUnderlying60 Tryz.sizeOf3 rfl rfl rfl ?_ ?_ ?_) ?_
     · exact SlF.some_ (SlF.ofOwn ho15 (hs20.ow L14))
     · first | omega | (simp only [List.length_take, List.length_drop]; omega)
     · first | omega | (simp only [List.length_take, List.length_drop]; omega)
     refine WL.storeF1 (x' := _) hs20 ho15 Tryz.sizeOf3 rfl rfl rfl rfl rfl rfl rfl rfl rfl ?_ rfl (fun L22 whs23 hs23 ho24 _ => ?_)
     · first | omega | (simp only [List.length_take, List.length_drop]; omega)
     refine WL.nil (WC.region (WL.r 3 hs23 [] rfl (WL.nil (hK19 _ _ (WC.region (WL.r 3 hs23 [] rfl (WL.nil ?_)))))))
     refine tkN (⟨sbF rfl, _, hs23, _, ?_, _, (j + 1), (k2 + 1), rfl, ?_, ?_, ?_, ?_, ?_, ho24, ⟨rfl, rfl, rfl, trivial⟩⟩)
     · omega
     · omega
     · omega
     · omega
     · omega
     · first | omega | (rw [List.length_set]; omega)
    refine WC.skip (hK19 _ _ (WC.region (WL.r 3 hs20 [] rfl (WL.nil (tkN ?_)))))
    refine ⟨sbF rfl, _, hs20, _, ?_, _, (j + 1), k2, rfl, ?_, ?_, ?_, ?_, ?_, ho15, ⟨rfl, rfl, rfl, trivial⟩⟩
    · omega
    · omega
    · omega
    · omega
    · omega
    · first | omega | (rw [List.length_set]; omega)
   refine WC.exit (hK11 _ _ (WC.sr (WL.r 2 hs16 [] rfl ?_)))
   have hc_ := OwnF.cap ho15
   refine WL.val rfl rfl rfl (Run.sliceL (k2) Tryz.runUnderlying60 Tryz.sizeOf3 rfl rfl rfl ?_ ?_) ?_
   · first | rfl | (omega)
   · refine ⟨?_, ?_, ?_⟩ <;> (omega)
   refine WL.clearF (lo := k2) hs16 ho15 Tryz.underlying60 Tryz.zeroValue3 rfl rfl rfl rfl rfl ?_ (fun L25 whs26 hs26 ho27 _ => ?_)
   · omega
   refine WL.nil (WC.sr (WL.r 2 hs26 [] rfl ?_))
   have ho28 := OwnF.take (k := k2) ho27 (by omega)
   have hcho28 := OwnF.cap ho28
   refine WL.val rfl rfl rfl (Run.sliceH0 (k2) Tryz.runUnderlying60 Tryz.sizeOf3 rfl rfl rfl ?_ ?_) ?_
   · first | rfl | (omega)
   · first | (exact Nat.zero_le _) | (omega)
   refine WL.r 1 hs26 [] rfl (WL.nil (WC.ret (ibR (tkR (tkR (ibR (tkR ?_)))))))
   clear hK8 hK4
   refine retV1 rfl (resV.tmp rfl) (⟨_, _, _, rfl, hs26.nil, ⟨fun h => absurd h (by omega), fun h => absurd hdup (h (k - 1) (by omega))⟩⟩)
  refine WC.skip (hK8 _ _ (WC.region (WL.r 3 hs9 [] rfl (WL.nil (tkN ?_)))))
  refine ⟨sbF rfl, hs9, _, ?_, k + 1, rfl, ?_, ?_, ?_, ⟨rfl, trivial⟩⟩
  · omega
  · omega
  · omega
  · intro j h1 h2; rcases Nat.lt_or_ge j k with h_ | h_
    · exact p2 j h1 h_
    · obtain rfl : j = k := by omega
      exact qh10
 refine WC.exit (hK4 _ _ (WC.r1 hs5 [] rfl (WC.ret (retV1 rfl (resV.tmp rfl) (⟨_, _, _, rfl, hs5.nil, ⟨fun _ i hi => p2 (i + 1) (by omega) (by omega), fun _ => rfl⟩⟩)))))
theorem k94_ (A_t : Option Addr) (n_t c_t : Nat) (t : List NodeD) (w : World) (f_t : SlF encNode w A_t n_t t) (hn : n_t ≤ 268435456) :
    Calls Tryz.prog 106 #[.slice A_t n_t c_t] w fun e w' => e = .returned (.bool (treeOk t)) ∧ St w [] [] w' := by
 have hl := f_t.len
 have hpl := panesL_len t
 have hsl := sortI_len (panesL t)
 refine enter 25 Tryz.func106 rfl Tryz.ntmps106 rfl rfl ?_
 have hs1 := St.init w
 refine WC.r1 hs1 [] rfl (WC.seq (fun K2 hK2 => WC.sr (WL.r 4 hs1 [] rfl ?_)))
 apply WL.gO 5 Acts.nil hs1 rfl
 ·intro g3 J4
  have qg3 := g3
  try simp only [bf, within_iff, within_not] at qg3
  refine WL.runA tbk 1 (Acts.nil.cons (j := 3) rfl g3) hs1 [] rfl trivial (WL.call (wantF rfl g3) rfl rfl (Run.call Tryz.call165 rfl rfl rfl) (k83_ _ _ _ _ _ _ (SlF.st0 f_t hs1) ?_) ?_)
  · first | assumption | rfl | omega
  rintro _ whs5 ⟨rfl, hs5⟩
  replace hs5 := hs1.call0 hs5
  refine ⟨_, rfl, WL.runA tbk 3 (Acts.nil.cons (j := 3) rfl g3) hs5 [] rfl trivial (WL.eO 5 Acts.nil J4 hs5 g3 rfl rfl)⟩
 intro _ hs6
 refine WL.nil (WC.cq rfl (fun h7 qh7 => ?_) (fun h7 qh7 => ?_))
 ·have hbad : treeOk t = false := by
    rw [← Bool.not_eq_true]; intro h_; simp only [treeOk, Bool.and_eq_true, decide_eq_true_eq] at h_; simp at qh7; omega
  refine WC.r1 hs6 [] rfl (WC.ret (tkR ?_))
  clear hK2
  refine retV1 rfl (resV.tmp rfl) (⟨congrArg Ending.returned (by rw [hbad]), hs6.nil⟩)
 have hA : t.length ≤ 31 := by simp at qh7; omega
 have hB : endI t 0 = (t.length : Int) := by simp at qh7; omega
 refine WC.skip (hK2 _ _ (WC.sr (WL.r 1 hs6 [] rfl ?_)))
 refine WL.cl Tryz.call107 rfl (k84_ _ _ _ _ _ (SlF.st0 f_t hs6) ?_) ?_
 · first | assumption | rfl | omega
 rintro _ whs8 ⟨A9, c10, L1_11, rfl, hs8, ho12⟩
 replace hs8 := hs6.callF hs8
 refine ⟨_, rfl, WL.r 1 hs8 [] rfl (WL.nil (WC.sr (WL.r 1 hs8 [] rfl (WL.cl Tryz.call166 rfl (k92_ _ _ _ _ ho12 (hs8.ow L1_11) ?_) ?_))))⟩
 · omega
 rintro _ whs13 ⟨L1_14, rfl, hs13, ho15⟩
 replace hs13 := St.lend hs8 hs13
 refine ⟨_, rfl, WL.nil (WC.sr (WL.r 1 hs13 [] rfl (WL.cl Tryz.call149 rfl (k86_ _ _ _ _ _ (SlF.ofOwn ho15 (hs13.ow L1_14)) ?_) ?_)))⟩
 · first | assumption | rfl | omega
 rintro _ whs16 ⟨A17, c18, L1_19, rfl, hs16, ho20⟩
 replace hs16 := hs13.callF hs16
 refine ⟨_, rfl, WL.cl Tryz.call167 rfl (k93_ _ _ _ _ ho20 (hs16.ow L1_19) ?_) ?_⟩
 · first | assumption | rfl | omega
 rintro _ whs21 ⟨m22, A23, c24, rfl, hs21, hm25⟩
 replace hs21 := St.lend hs16 hs21
 refine ⟨_, rfl, ?_⟩
 rw [List.nil_append] at hs21
 refine WL.r 5 hs21 [] rfl (WL.nil (WC.ret (retV1 rfl (resV.tmp rfl) (⟨congrArg Ending.returned (congrArg Value.bool ?_), hs21.nil⟩))))
 have hm_ := hm25
 rw [sortI_adj, sortI_len] at hm_
 rw [Bool.eq_iff_iff, decide_eq_true_eq]
 simp only [treeOk, hA, hB, decide_true, Bool.true_and, decide_eq_true_eq]
 rw [← hm_]
 try omega
theorem k95_ (A_t : Option Addr) (n_t c_t : Nat) (t : List NodeD) (w : World) (f_t : SlF encNode w A_t n_t t) (hn : n_t ≤ 268435456) :
    Calls Tryz.prog 47 #[.slice A_t n_t c_t] w fun e w' => ∃ A c L1, e = .returned (.slice A (leavesL t).length c) ∧ St w [] L1 w' ∧ OwnF encI 3 (.slice A (leavesL t).length c) (leavesL t) L1 := by
 refine enter 8 Tryz.func47 rfl Tryz.ntmps47 rfl rfl ?_
 have hs1 := St.init w
 refine WC.r1 hs1 [] rfl (WC.seq (fun K2 hK2 => WC.sr (WL.r 1 hs1 [] rfl ?_)))
 refine WL.cl Tryz.call106 rfl (k94_ _ _ _ _ _ (SlF.st0 f_t hs1) ?_) ?_
 · first | assumption | rfl | omega
 rintro _ whs3 ⟨rfl, hs3⟩
 replace hs3 := hs1.call0 hs3
 refine ⟨_, rfl, WL.r 1 hs3 [] rfl (WL.nil (WC.cq rfl (fun h4 qh4 => ?_) (fun h4 qh4 => ?_)))⟩
 ·have hok : treeOk t = false := by simpa using qh4
  refine WC.r1 hs3 [] rfl (WC.ret (tkR ?_))
  clear hK2
  refine retV1 rfl (resV.tmp rfl) ?_
  have hx_ := OwnF.eqOf (xs := leavesL t) (OwnF.nil encI 3) (by simp [leavesL, hok])
  rw [← hx_]
  exact ⟨_, _, _, rfl, hs3.nil, (OwnF.nil encI 3)⟩
 have hok : treeOk t = true := by simpa using qh4
 refine WC.skip (hK2 _ _ (WC.sr (WL.r 1 hs3 [] rfl ?_)))
 refine WL.cl Tryz.call107 rfl (k84_ _ _ _ _ _ (SlF.st0 f_t hs3) ?_) ?_
 · first | assumption | rfl | omega
 rintro _ whs5 ⟨A6, c7, L1_8, rfl, hs5, ho9⟩
 replace hs5 := hs3.callF hs5
 refine ⟨_, rfl, WL.r 1 hs5 [] rfl (WL.nil (WC.ret (retV1 rfl (resV.tmp rfl) ?_)))⟩
 have hx_ := OwnF.eqOf (xs := leavesL t) ho9 (by simp [leavesL, hok])
 rw [← hx_]
 first | exact ⟨_, _, _, rfl, (St.keep1 hs5), ho9⟩ | exact ⟨A6, c7, _, by rw [OwnF.len_ ho9], (St.keep1 hs5), by rw [OwnF.len_ ho9]; exact ho9⟩
theorem k96_ (q : WinR) (b_p : Nat) (p : Int) (w : World) (f_q : okWinR 549755813888 w q) (f_p : SlF encI w (some ⟨b_p, 0, none⟩) 1 [p]) (hq : q.Tree.n ≤ 1048576) :
    Calls Tryz.prog 45 #[.agg #[i64 q.Id, .string q.Name, .slice q.Tree.A q.Tree.n q.Tree.c, i64 q.Active, .bool q.Zoom], .pointer (some ⟨b_p, 0, none⟩)] w fun e w' => e = .returned (.bool (hasI (leavesL q.Tree.xs) p)) ∧ St w [] [] w' := by
 have nz_q_Name := f_q.Name_z
 have nb_q_Tree := f_q.Tree_n
 have nl_q_Tree := f_q.Tree.len
 have hll := leavesL_len q.Tree.xs
 refine enter 9 Tryz.func45 rfl Tryz.ntmps45 rfl rfl ?_
 have hs1 := St.init w
 refine WC.sr (WL.bx hs1 rfl (fun b2 _ hs3 => WL.r 1 hs3 [] rfl (WL.nil (WC.seq (fun K4 hK4 => WC.rH hs3 hs3 (fun _ hs5 => ?_))))))
 refine WH.rn [0, 1] hs5 [0] rfl rfl ?_
 refine WH.take 3 rfl (by kernel_rfl) rfl rfl rfl hs5 (fun w_ hs_ => (Run.load Tryz.isAgg3 rfl rfl (SlF.var (SlF.st0 f_p (hs_ : St _ _ _ _)) rfl))) ?_
 refine WH.o1 2 rfl (WL.cl Tryz.call47 rfl (k95_ _ _ _ _ _ (SlF.st0 f_q.Tree hs5) ?_) ?_)
 · first | assumption | rfl | omega
 rintro _ whs6 ⟨A7, c8, L1_9, rfl, hs6, ho10⟩
 replace hs6 := hs5.callF hs6
 refine ⟨_, rfl, ?_⟩
 replace hs6 := St.back [_] hs6
 refine WL.nil ⟨(hs6.rm L1_9), WH.o1 4 rfl (WL.cl Tryz.call46 rfl (k88_ _ _ _ _ _ _ (SlF.ofOwn ho10 (hs6.ow L1_9)) ?_) ?_)⟩
 · first | assumption | rfl | omega
 rintro _ whs11 ⟨rfl, hs11⟩
 replace hs11 := hs6.call0 hs11
 refine ⟨_, rfl, WL.nil ⟨(hs11.rm L1_9), WH.rn [5] (hs11.rm L1_9) [] rfl rfl (WH.dn (hK4 _ _ (WC.ret (rtv rfl rfl hs11 ?_))))⟩⟩
 rfl
theorem k97_ (A_s : Option Addr) (n_s c_s : Nat) (s : List WinR) (b_p : Nat) (p : Int) (w : World) (f_s : SlN encWinR (okWinR 549755813888) w A_s n_s s) (f_p : SlF encI w (some ⟨b_p, 0, none⟩) 1 [p]) (hn : n_s ≤ 549755813888) (hW : ∀ y, y ∈ s → y.Tree.n ≤ 1048576) :
    Calls Tryz.prog 44 #[.slice A_s n_s c_s, .func (.func 45) #[] #[.pointer (some ⟨b_p, 0, none⟩)]] w fun e w' => e = .returned (.int .i64 (findI (fun q : WinR => hasI (leavesL q.Tree.xs) p) s)) ∧ St w [] [] w' := by
 have hsl := f_s.sl.len
 refine enter 19 Tryz.func44 rfl Tryz.ntmps44 rfl rfl ?_
 have hs1 := St.init w
 refine WC.r1 hs1 [] rfl (WC.seq (fun K2 hK2 => WC.r1 hs1 [] rfl (WC.block ?_)))
 refine WC.lS [0, 1, 7] rfl hs1 (fun k_ f w' => ∃ (i : Nat), k_ = n_s - i ∧ (i ≤ n_s) ∧ (∀ j, j < i → (fun q : WinR => hasI (leavesL q.Tree.xs) p) (gat encWinR s j) = false) ∧ Sub [(8, .int .i64 i)] f) ((fun (i : Nat) => n_s - i) (0)) ?_ ?_
 ·refine ⟨0, rfl, ?_, ?_, ⟨rfl, trivial⟩⟩
  · exact Nat.zero_le _
  · exact fun j hj => absurd hj (by omega)
 clear hs1
 rintro _ f w ⟨i, rfl, p0, p1, hG⟩ hF hs3
 refine WC.sub _ (hG.app hF) ?_
 clear hG hF
 refine WC.r1 hs3 [] rfl (WC.seq (fun K4 hK4 => ?_))
 refine WC.cond rfl (fun h5 => ?_) (fun h5 => ?_)
 ·have qh5 := h5
  try simp only [decide_eq_true_eq, decide_eq_false_iff_not] at qh5
  have hWi := hW (gat encWinR s i) (gat_mem (by omega))
  refine WC.skip (hK4 _ _ (WC.seq (fun K6 hK6 => WC.block (WC.r1 hs3 [] rfl (WC.sr (WL.r 3 hs3 [] rfl ?_))))))
  refine WL.val rfl rfl rfl (Run.idxN Tryz.runUnderlying30 Tryz.sizeOf58 rfl rfl rfl ?_ ?_ ?_) ?_
  · exact SlF.some_ (SlF.st0 f_s.sl hs3)
  · omega
  · omega
  refine WL.val rfl rfl rfl (Run.loadA Tryz.isAgg58 Tryz.sizeOf58 rfl rfl (SlF.whole (SlF.st0 f_s.sl hs3) ?_)) ?_
  · omega
  refine WL.call rfl rfl rfl (Run.callC Tryz.call45 rfl rfl rfl) (k96_ (gat encWinR s i) _ _ _ (okWinR.st0 (SlN.nth f_s (by omega)) hs3) (SlF.st0 f_p hs3) ?_) ?_
  · first | assumption | rfl | omega
  rintro _ whs7 ⟨rfl, hs7⟩
  replace hs7 := hs3.call0 hs7
  refine ⟨_, rfl, WL.nil (WC.cond rfl (fun h8 => ?_) (fun h8 => ?_))⟩
  ·have qh8 := h8
   try simp only [decide_eq_true_eq, decide_eq_false_iff_not] at qh8
   refine WC.r1 hs7 [] rfl (WC.ret (ibR (tkR (tkR (ibR (tkR ?_))))))
   clear hK6 hK2
   refine rtv rfl rfl hs7 ?_
   rw [findI_some (F := encWinR) (by rw [f_s.sl.len]; omega) p1 h8]
  have qh8 := h8
  try simp only [decide_eq_true_eq, decide_eq_false_iff_not] at qh8
  refine WC.skip (hK6 _ _ (WC.region (WL.r 2 hs7 [] rfl (WL.nil (tkN ?_)))))
  refine ⟨sbF rfl, hs7, _, ?_, i + 1, rfl, ?_, ?_, ⟨rfl, trivial⟩⟩
  · omega
  · omega
  · intro j hj; rcases Nat.lt_or_ge j i with h_ | h_
    · exact p1 j h_
    · obtain rfl : j = i := by omega
      exact h8
 have qh5 := h5
 try simp only [decide_eq_true_eq, decide_eq_false_iff_not] at qh5
 refine WC.exit (hK2 _ _ (WC.r1 hs3 [] rfl (WC.ret (rtv rfl rfl hs3 ?_))))
 rw [findI_none (F := encWinR) (fun j hj => p1 j (by rw [f_s.sl.len] at hj; omega))]
theorem k98_ (s : StateR) (p : Int) (w : World) (f_s : okStateR 549755813888 w s) (hT : totState s.dat ≤ 1048576) :
    Calls Tryz.prog 14 #[.agg #[i64 s.W, i64 s.H, i64 s.Limit, i64 s.Next, .slice s.Panes.A s.Panes.n s.Panes.c, .slice s.Wins.A s.Wins.n s.Wins.c, .slice s.Sess.A s.Sess.n s.Sess.c], i64 p] w fun e w' => e = .returned (.int .i64 (findI (winHas p) s.dat.Wins)) ∧ St w [] [] w' := by
 have nb_s_Panes := f_s.Panes_n
 have nl_s_Panes := f_s.Panes.sl.len
 have nb_s_Wins := f_s.Wins_n
 have nl_s_Wins := f_s.Wins.sl.len
 have nb_s_Sess := f_s.Sess_n
 have nl_s_Sess := f_s.Sess.sl.len
 have hsm0 : smState 1048576 s.dat := totState_sm hT
 have hWn : ∀ y, y ∈ s.Wins.xs → y.Tree.n ≤ 1048576 := fun y hy => by have h1 := (f_s.Wins.all y hy).Tree.len; have h2 : y.Tree.xs.length ≤ 1048576 := (hsm0.2.2.2.1 _ (List.mem_map_of_mem hy)).2; omega
 refine enter 9 Tryz.func14 rfl Tryz.ntmps14 rfl rfl ?_
 have hs1 := St.init w
 refine WC.sr (WL.bx hs1 rfl (fun b2 _ hs3 => WL.bx hs3 rfl (fun b4 _ hs5 => WL.r 1 hs5 [] rfl (WL.nil (WC.sr (WL.r 2 hs5 [1] rfl (WL.val rfl rfl rfl (Run.makeFunc rfl rfl) ?_)))))))
 refine WL.cl Tryz.call44 rfl (k97_ _ _ _ _ _ _ _ (SlN.st0 okWinR.st0 f_s.Wins hs5) (SlF.own1 (hs5.own _ (nthL_mem (i := 0) rfl)).1) ?_ ?_) ?_
 iterate 2 first | assumption | rfl | omega
 rintro _ whs6 ⟨rfl, hs6⟩
 replace hs6 := hs5.call0 hs6
 refine ⟨_, rfl, WL.r 1 hs6 [] rfl (WL.nil (WC.ret (rtv rfl rfl hs6 ?_)))⟩
 rw [show s.dat.Wins = s.Wins.xs.map WinR.dat from rfl, findI_map]; rfl
theorem k99_ (s : StateR) (p : Int) (w : World) (f_s : okStateR 549755813888 w s) (hT : totState s.dat ≤ 1048576) :
    Calls Tryz.prog 12 #[.agg #[i64 s.W, i64 s.H, i64 s.Limit, i64 s.Next, .slice s.Panes.A s.Panes.n s.Panes.c, .slice s.Wins.A s.Wins.n s.Wins.c, .slice s.Sess.A s.Sess.n s.Sess.c], i64 p] w fun e w' => e = .returned (.int .i64 (findI (winHas p) s.dat.Wins)) ∧ St w [] [] w' := by
 have nb_s_Panes := f_s.Panes_n
 have nl_s_Panes := f_s.Panes.sl.len
 have nb_s_Wins := f_s.Wins_n
 have nl_s_Wins := f_s.Wins.sl.len
 have nb_s_Sess := f_s.Sess_n
 have nl_s_Sess := f_s.Sess.sl.len
 have hsm0 : smState 1048576 s.dat := totState_sm hT
 have hWn : ∀ y, y ∈ s.Wins.xs → y.Tree.n ≤ 1048576 := fun y hy => by have h1 := (f_s.Wins.all y hy).Tree.len; have h2 : y.Tree.xs.length ≤ 1048576 := (hsm0.2.2.2.1 _ (List.mem_map_of_mem hy)).2; omega
 refine enter 22 Tryz.func12 rfl Tryz.ntmps12 rfl rfl ?_
 have hs1 := St.init w
 refine WC.sr (WL.bx hs1 rfl (fun b2 _ hs3 => WL.r 1 hs3 [] rfl (WL.nil (WC.seq (fun K4 hK4 => WC.r1 hs3 [0] rfl (WC.block ?_))))))
 refine WC.lS [1, 8, 9] rfl hs3 (fun k_ f w' => ∃ (i : Nat), k_ = s.Wins.n - i ∧ (i ≤ s.Wins.n) ∧ (∀ j, j < i → (fun q : WinR => hasI (leavesL q.Tree.xs) p) (gat encWinR s.Wins.xs j) = false) ∧ Sub [(10, .int .i64 i)] f) ((fun (i : Nat) => s.Wins.n - i) (0)) ?_ ?_
 ·refine ⟨0, rfl, ?_, ?_, ⟨rfl, trivial⟩⟩
  · exact Nat.zero_le _
  · exact fun j hj => absurd hj (by omega)
 clear hs3
 rintro _ f w ⟨i, rfl, p0, p1, hG⟩ hF hs5
 refine WC.sub _ (hG.app hF) ?_
 clear hG hF
 refine WC.r1 hs5 [] rfl (WC.seq (fun K6 hK6 => ?_))
 refine WC.cq rfl (fun h7 qh7 => ?_) (fun h7 qh7 => ?_)
 ·have hWi := hWn (gat encWinR s.Wins.xs i) (gat_mem (by omega))
  have hll := leavesL_len (gat encWinR s.Wins.xs i).Tree.xs
  have hTl := (SlN.nth f_s.Wins (show i < s.Wins.n by omega)).Tree.len
  refine WC.skip (hK6 _ _ (WC.seq (fun K8 hK8 => WC.block (WC.sr (WL.r 1 hs5 [] rfl ?_)))))
  refine WL.val rfl rfl rfl (Run.idxN Tryz.runUnderlying30 Tryz.sizeOf58 rfl rfl rfl ?_ ?_ ?_) ?_
  · exact SlF.some_ (SlF.st0 f_s.Wins.sl hs5)
  · omega
  · omega
  refine WL.val rfl rfl rfl (Run.loadA Tryz.isAgg58 Tryz.sizeOf58 rfl rfl (SlF.whole (SlF.st0 f_s.Wins.sl hs5) ?_)) ?_
  · omega
  refine WL.al hs5 Tryz.zeroValue58 rfl rfl (fun b9 _ hs10 => WL.r 1 hs10 [] rfl (WL.st tbk hs10 0 rfl rfl (fun _ hs11 => WL.nil (WC.sr (WL.r 2 hs11 [0] rfl ?_)))))
  refine WL.cl Tryz.call40 rfl (k91_ _ _ _ _ _ (SlF.st0 (SlN.nth f_s.Wins (by omega)).Tree hs11) ?_) ?_
  · first | assumption | rfl | omega
  rintro _ whs12 ⟨A13, c14, L1_15, rfl, hs12, ho16⟩
  replace hs12 := hs11.callF hs12
  refine ⟨_, rfl, ?_⟩
  replace hs12 := St.back [_, _] hs12
  refine WL.r 1 hs12 [] rfl (WL.cl Tryz.call39 rfl (k89_ _ _ _ _ _ _ (SlF.ofOwn ho16 (hs12.ow L1_15)) ?_) ?_)
  · first | assumption | rfl | omega
  rintro _ whs17 ⟨rfl, hs17⟩
  replace hs17 := hs12.call0 hs17
  refine ⟨_, rfl, WL.nil (WC.cq rfl (fun h18 qh18 => ?_) (fun h18 qh18 => ?_))⟩
  ·refine WC.r1 hs17 [] rfl (WC.ret (ibR (tkR (tkR (ibR (tkR ?_))))))
   clear hK8 hK4
   refine rtv rfl rfl hs17 ?_
   rw [show s.dat.Wins = s.Wins.xs.map WinR.dat from rfl, findI_map]; exact congrArg (Value.int _) (findI_some (F := encWinR) (p := (fun q : WinR => hasI (leavesL q.Tree.xs) p)) (xs := s.Wins.xs) (by omega) p1 h18).symm
  refine WC.skip (hK8 _ _ (WC.region (WL.r 2 hs17 [] rfl (WL.nil (tkN ?_)))))
  refine ⟨sbF rfl, (hs17.drop (by repeat (first | exact List.Sublist.refl _ | exact List.sublist_append_left _ _ | exact List.Sublist.trans (List.sublist_append_left _ _) (List.sublist_append_left _ _) | apply List.Sublist.cons | refine List.Sublist.trans ?_ (sR _)))), _, ?_, i + 1, rfl, ?_, ?_, ⟨rfl, trivial⟩⟩
  · omega
  · omega
  · intro j hj; rcases Nat.lt_or_ge j i with h_ | h_
    · exact p1 j h_
    · obtain rfl : j = i := by omega
      exact h18
 refine WC.exit (hK4 _ _ (WC.r1 hs5 [] rfl (WC.ret (rtv rfl rfl hs5 ?_))))
 rw [show s.dat.Wins = s.Wins.xs.map WinR.dat from rfl, findI_map]; exact congrArg (Value.int _) (findI_none (F := encWinR) (p := (fun q : WinR => hasI (leavesL q.Tree.xs) p)) (xs := s.Wins.xs) (fun j hj => p1 j (by omega))).symm
theorem inf71 : Tryz.prog.info? 71 = some Tryz.t71 := by kernel_rfl
set_option maxHeartbeats 1000000 in
theorem k100_ (n_Pane : Int) (n_Down : Bool) (n_First : Int) (r_Pane : Int) (r_X : Int) (r_Y : Int) (r_W : Int) (r_H : Int) (w : World) (hb : -1000000 ≤ n_First ∧ n_First ≤ 1000000 ∧ 0 ≤ r_X ∧ r_X ≤ 1000 ∧ 0 ≤ r_Y ∧ r_Y ≤ 1000 ∧ 0 ≤ r_W ∧ r_W ≤ 1000 ∧ 0 ≤ r_H ∧ r_H ≤ 1000) :
    Calls Tryz.prog 264 #[.agg #[i64 n_Pane, .bool n_Down, i64 n_First], .agg #[i64 r_Pane, i64 r_X, i64 r_Y, i64 r_W, i64 r_H]] w fun e w' => e = .returned (.tuple #[.agg (encRect.enc (firstR (⟨n_Pane, n_Down, n_First⟩ : NodeD) (⟨r_Pane, r_X, r_Y, r_W, r_H⟩ : RectD))).toArray, .agg (encRect.enc (secondR (⟨n_Pane, n_Down, n_First⟩ : NodeD) (⟨r_Pane, r_X, r_Y, r_W, r_H⟩ : RectD))).toArray, .bool (decide (3 ≤ sizeR (⟨n_Pane, n_Down, n_First⟩ : NodeD) (⟨r_Pane, r_X, r_Y, r_W, r_H⟩ : RectD)))]) ∧ St w [] [] w' := by
 refine enter 56 Tryz.func264 rfl Tryz.ntmps264 rfl rfl ?_
 have hs1 := St.init w
 refine WC.sr (WL.bx hs1 rfl (fun b2 _ hs3 => WL.bx hs3 rfl (fun b4 _ hs5 => WL.al hs5 Tryz.zeroValue71 rfl rfl (fun b6 _ hs7 => WL.al hs7 Tryz.zeroValue71 rfl rfl (fun b8 _ hs9 => WL.r 1 hs9 [] rfl (WL.nil (WC.seq (fun K10 hK10 => ?_))))))))
 apply WC.join2 (fun b11 b12 => (b11, .cells (List.toArray [i64 (r_Pane), i64 (r_X), i64 (r_Y), i64 (r_W), i64 (r_H)]) _ _) :: (b12, .cells (List.toArray [i64 (r_Pane), i64 (r_X), i64 (r_Y), i64 (r_W), i64 (r_H)]) _ _) :: (b8, _) :: (b6, _) :: (b4, _) :: (b2, _) :: _) (fun b11 b12 => [(0, _), (1, _), (2, _), (3, _), (4, _), (5, _), (6, _), (7, _), (8, _)])
 ·refine WC.rH hs9 hs9 (fun _ hs13 => ?_)
  refine WH.rn [0, 1] hs13 [2, 2] rfl rfl (WH.all [2, 3] (by kernel_rfl) rfl (WHs.cons (i := 2) rfl ?_ (WHs.cons (i := 3) rfl ?_ WHs.nil)))
  ·refine WL.al hs13 Tryz.zeroValue71 rfl rfl (fun b14 _ hs15 => WL.nil ⟨hs15.d1, WH.o1 3 rfl (WL.al hs15 Tryz.zeroValue71 rfl rfl (fun b16 _ hs17 => WL.nil ⟨hs17.d1.d1, WH.o1 4 rfl (WL.st tbk hs17 1 rfl rfl (fun _ hs18 => WL.nil ⟨hs18.d1.d1, ?_⟩))⟩))⟩)
   refine WH.o1 5 rfl (WL.st tbk hs18 0 rfl rfl (fun _ hs19 => WL.nil ⟨hs19.d1.d1, WH.dn (⟨rfl, b14, b16, (St.swap [] hs19), ⟨rfl, rfl, rfl, rfl, rfl, rfl, rfl, rfl, rfl, trivial⟩⟩)⟩))
  refine WL.al hs13 Tryz.zeroValue71 rfl rfl (fun b20 _ hs21 => WL.nil ⟨hs21.d1, WH.o1 2 rfl (WL.al hs21 Tryz.zeroValue71 rfl rfl (fun b22 _ hs23 => WL.nil ⟨hs23.d1.d1, WH.o1 4 rfl (WL.st tbk hs23 0 rfl rfl (fun _ hs24 => WL.nil ⟨hs24.d1.d1, ?_⟩))⟩))⟩)
  refine WH.o1 5 rfl (WL.st tbk hs24 1 rfl rfl (fun _ hs25 => WL.nil ⟨hs25.d1.d1, WH.dn (⟨rfl, b22, b20, hs25, ⟨rfl, rfl, rfl, rfl, rfl, rfl, rfl, rfl, rfl, trivial⟩⟩)⟩))
 ·rintro f_hs26 whs26 ⟨b11, b12, hs26, hG27⟩
  replace hs26 : St _ _ _ _ := hs26
  refine hK10 _ _ (WC.sub _ hG27 (WC.r1 hs26 [4] rfl (WC.seq (fun K28 hK28 => WC.r1 hs26 [5] rfl ?_))))
  refine WC.cq rfl (fun h29 qh29 => ?_) (fun h29 qh29 => ?_)
  ·have hd : n_Down = true := qh29
   have e1 : firstR (⟨n_Pane, n_Down, n_First⟩ : NodeD) (⟨r_Pane, r_X, r_Y, r_W, r_H⟩ : RectD) = ⟨r_Pane, r_X, r_Y, r_W, min n_First (r_H - 2)⟩ := by simp [firstR, hd]
   have e2 : secondR (⟨n_Pane, n_Down, n_First⟩ : NodeD) (⟨r_Pane, r_X, r_Y, r_W, r_H⟩ : RectD) = ⟨r_Pane, r_X, r_Y + min n_First (r_H - 2) + 1, r_W, r_H - min n_First (r_H - 2) - 1⟩ := by simp [secondR, hd]
   have e3 : sizeR (⟨n_Pane, n_Down, n_First⟩ : NodeD) (⟨r_Pane, r_X, r_Y, r_W, r_H⟩ : RectD) = r_H := by simp [sizeR, hd]
   refine WC.region (WL.r 3 hs26 [4] rfl (WL.nil (hK28 _ _ (WC.r1 hs26 [5] rfl (WC.seq (fun K30 hK30 => WC.r1 hs26 [5] rfl (WC.condT rfl h29 ?_)))))))
   apply WC.join0 ((b11, .cells (List.toArray [i64 (r_Pane), i64 (r_X), i64 (r_Y), i64 (r_W), i64 (min n_First (r_H - 2))]) _ _) :: (b12, .cells (List.toArray [i64 (r_Pane), i64 (r_X), i64 (r_Y + min n_First (r_H - 2) + 1), i64 (r_W), i64 (r_H - min n_First (r_H - 2) - 1)]) _ _) :: (b8, _) :: (b6, _) :: (b4, _) :: (b2, _) :: _) ([(0, _), (1, _), (2, _), (3, _), (4, _), (5, _), (6, _), (7, _), (8, _), (9, _), (10, _), (13, _), (14, _), (15, _), (16, _), (17, _), (18, _), (19, _), (20, _), (21, _), (22, _), (23, _), (24, _), (25, _)])
   ·refine WC.rH hs26.d1.d1 hs26 (fun _ hs32 => ?_)
    refine WH.rn [0, 1, 2, 3, 4, 5, 6, 7, 8, 9, 10] hs32.d1.d1 [2] rfl rfl (WH.o1 11 rfl (WL.st tbk hs32 0 rfl rfl (fun _ hs33 => WL.nil ⟨hs33.d1.d1, WH.rn [12] hs33.d1.d1 [] rfl rfl (WH.o1 13 rfl (WL.st tbk hs33 1 rfl rfl (fun _ hs34 => WL.nil ⟨hs34.d1.d1, ?_⟩)))⟩)))
    refine WH.rn [14] hs34.d1.d1 [] rfl rfl (WH.o1 15 rfl (WL.st tbk hs34 1 rfl rfl (fun _ hs35 => WL.nil ⟨hs35.d1.d1, WH.dn (⟨rfl, hs35, ⟨rfl, rfl, rfl, rfl, rfl, rfl, rfl, rfl, rfl, rfl, rfl, rfl, rfl, rfl, rfl, rfl, rfl, rfl, rfl, rfl, rfl, rfl, rfl, rfl, trivial⟩⟩)⟩)))
   ·rintro f_hs36 whs36 ⟨hs36, hG37⟩
    replace hs36 : St _ _ _ _ := hs36
    refine hK30 _ _ (WC.sub _ hG37 (WC.seq (fun K38 hK38 => ?_)))
    apply WC.join0 ((b11, _) :: (b12, _) :: (b8, .cells (List.toArray [i64 (r_Pane), i64 (r_X), i64 (r_Y + min n_First (r_H - 2) + 1), i64 (r_W), i64 (r_H - min n_First (r_H - 2) - 1)]) _ _) :: (b6, .cells (List.toArray [i64 (r_Pane), i64 (r_X), i64 (r_Y), i64 (r_W), i64 (min n_First (r_H - 2))]) _ _) :: (b4, _) :: (b2, _) :: _) ([(0, _), (1, _), (2, _), (3, _), (4, _), (5, _), (7, _), (8, _), (9, _), (10, _), (13, _), (14, _), (15, _), (16, _), (17, _), (18, _), (19, _), (20, _), (21, _), (22, _), (23, _), (24, _), (25, _), (6, _)])
    ·refine WC.rH ((hs36.fb b8).d1.fb b6).d1 hs36 (fun _ hs39 => ?_)
     refine WH.rn [0, 1, 2, 3] ((hs39.fb b8).d1.fb b6).d1 [0, 1] rfl rfl (WH.o1 4 rfl (WL.st tbk hs39 3 rfl rfl (fun _ hs40 => WL.nil ⟨((hs40.fb b8).d1.fb b6).d1, WH.o1 5 rfl (WL.st tbk hs40 2 rfl rfl (fun _ hs41 => WL.nil ⟨((hs41.fb b8).d1.fb b6).d1, WH.rn [6] ((hs41.fb b8).d1.fb b6).d1 [] rfl rfl ?_⟩))⟩)))
     refine WH.dn (⟨rfl, hs41, ⟨rfl, rfl, rfl, rfl, rfl, rfl, rfl, rfl, rfl, rfl, rfl, rfl, rfl, rfl, rfl, rfl, rfl, rfl, rfl, rfl, rfl, rfl, rfl, rfl, trivial⟩⟩)
    ·rintro f_hs42 whs42 ⟨hs42, hG43⟩
     replace hs42 : St _ _ _ _ := hs42
     refine hK38 _ _ (WC.sub _ hG43 (WC.ret (retV3 rfl (resV.cellA tbk hs42 3 rfl rfl rfl rfl) (resV.cellA tbk hs42 2 rfl rfl rfl rfl) (resV.tmp rfl) (⟨congrArg Ending.returned ?_, hs42.nil⟩))))
     rw [e1, e2, e3]; rfl
  have hd : n_Down = false := qh29
  have e1 : firstR (⟨n_Pane, n_Down, n_First⟩ : NodeD) (⟨r_Pane, r_X, r_Y, r_W, r_H⟩ : RectD) = ⟨r_Pane, r_X, r_Y, min n_First (r_W - 2), r_H⟩ := by simp [firstR, hd]
  have e2 : secondR (⟨n_Pane, n_Down, n_First⟩ : NodeD) (⟨r_Pane, r_X, r_Y, r_W, r_H⟩ : RectD) = ⟨r_Pane, r_X + min n_First (r_W - 2) + 1, r_Y, r_W - min n_First (r_W - 2) - 1, r_H⟩ := by simp [secondR, hd]
  have e3 : sizeR (⟨n_Pane, n_Down, n_First⟩ : NodeD) (⟨r_Pane, r_X, r_Y, r_W, r_H⟩ : RectD) = r_W := by simp [sizeR, hd]
  refine WC.skip (hK28 _ _ (WC.r1 hs26 [5] rfl (WC.seq (fun K44 hK44 => WC.r1 hs26 [5] rfl (WC.condF rfl h29 ?_)))))
  apply WC.join0 ((b11, .cells (List.toArray [i64 (r_Pane), i64 (r_X), i64 (r_Y), i64 (min n_First (r_W - 2)), i64 (r_H)]) _ _) :: (b12, .cells (List.toArray [i64 (r_Pane), i64 (r_X + min n_First (r_W - 2) + 1), i64 (r_Y), i64 (r_W - min n_First (r_W - 2) - 1), i64 (r_H)]) _ _) :: (b8, _) :: (b6, _) :: (b4, _) :: (b2, _) :: _) ([(0, _), (1, _), (2, _), (3, _), (4, _), (5, _), (6, _), (7, _), (8, _), (9, _), (10, _), (13, _), (14, _), (15, _), (16, _), (19, _), (20, _), (21, _), (22, _), (23, _), (24, _), (25, _)])
  ·refine WC.rH hs26.d1.d1 hs26 (fun _ hs46 => ?_)
   refine WH.rn [0, 1, 2, 3, 4, 5, 6, 7, 8, 9, 10] hs46.d1.d1 [2] rfl rfl (WH.o1 11 rfl (WL.st tbk hs46 0 rfl rfl (fun _ hs47 => WL.nil ⟨hs47.d1.d1, WH.rn [12] hs47.d1.d1 [] rfl rfl (WH.o1 13 rfl (WL.st tbk hs47 1 rfl rfl (fun _ hs48 => WL.nil ⟨hs48.d1.d1, ?_⟩)))⟩)))
   refine WH.rn [14] hs48.d1.d1 [] rfl rfl (WH.o1 15 rfl (WL.st tbk hs48 1 rfl rfl (fun _ hs49 => WL.nil ⟨hs49.d1.d1, WH.dn (⟨rfl, hs49, ⟨rfl, rfl, rfl, rfl, rfl, rfl, rfl, rfl, rfl, rfl, rfl, rfl, rfl, rfl, rfl, rfl, rfl, rfl, rfl, rfl, rfl, rfl, trivial⟩⟩)⟩)))
  ·rintro f_hs50 whs50 ⟨hs50, hG51⟩
   replace hs50 : St _ _ _ _ := hs50
   refine hK44 _ _ (WC.sub _ hG51 (WC.seq (fun K52 hK52 => ?_)))
   apply WC.join0 ((b11, _) :: (b12, _) :: (b8, .cells (List.toArray [i64 (r_Pane), i64 (r_X + min n_First (r_W - 2) + 1), i64 (r_Y), i64 (r_W - min n_First (r_W - 2) - 1), i64 (r_H)]) _ _) :: (b6, .cells (List.toArray [i64 (r_Pane), i64 (r_X), i64 (r_Y), i64 (min n_First (r_W - 2)), i64 (r_H)]) _ _) :: (b4, _) :: (b2, _) :: _) ([(0, _), (1, _), (2, _), (3, _), (4, _), (5, _), (7, _), (8, _), (9, _), (10, _), (13, _), (14, _), (15, _), (16, _), (19, _), (20, _), (21, _), (22, _), (23, _), (24, _), (25, _), (6, _)])
   ·refine WC.rH ((hs50.fb b8).d1.fb b6).d1 hs50 (fun _ hs53 => ?_)
    refine WH.rn [0, 1, 2, 3] ((hs53.fb b8).d1.fb b6).d1 [0, 1] rfl rfl (WH.o1 4 rfl (WL.st tbk hs53 3 rfl rfl (fun _ hs54 => WL.nil ⟨((hs54.fb b8).d1.fb b6).d1, WH.o1 5 rfl (WL.st tbk hs54 2 rfl rfl (fun _ hs55 => WL.nil ⟨((hs55.fb b8).d1.fb b6).d1, WH.rn [6] ((hs55.fb b8).d1.fb b6).d1 [] rfl rfl ?_⟩))⟩)))
    refine WH.dn (⟨rfl, hs55, ⟨rfl, rfl, rfl, rfl, rfl, rfl, rfl, rfl, rfl, rfl, rfl, rfl, rfl, rfl, rfl, rfl, rfl, rfl, rfl, rfl, rfl, rfl, trivial⟩⟩)
   ·rintro f_hs56 whs56 ⟨hs56, hG57⟩
    replace hs56 : St _ _ _ _ := hs56
    refine hK52 _ _ (WC.sub _ hG57 (WC.ret (retV3 rfl (resV.cellA tbk hs56 3 rfl rfl rfl rfl) (resV.cellA tbk hs56 2 rfl rfl rfl rfl) (resV.tmp rfl) (⟨congrArg Ending.returned ?_, hs56.nil⟩))))
    rw [e1, e2, e3]; rfl
theorem k101_ (f : Int) (n : Int) (w : World) (hb : -1000000 ≤ n ∧ n ≤ 1000000) :
    Calls Tryz.prog 214 #[i64 f, i64 n] w fun e w' => e = .returned (.int .i64 (min f (n - 2))) ∧ St w [] [] w' := by
 refine enter 12 Tryz.func214 rfl Tryz.ntmps214 rfl rfl ?_
 have hs1 := St.init w
 refine WC.r1 hs1 [] rfl (WC.seq (fun K2 hK2 => WC.r1 hs1 [] rfl ?_))
 refine WC.cD rfl (fun qh3 => ?_) (fun qh3 => ?_)
 ·refine WC.r1 hs1 [] rfl (WC.ret (tkR ?_))
  clear hK2
  refine rtv rfl rfl hs1 ?_
  refine congrArg (Value.int .i64) ?_; omega
 refine WC.skip (hK2 _ _ (WC.r1 hs1 [] rfl (WC.ret (rtv rfl rfl hs1 ?_))))
 refine congrArg (Value.int .i64) ?_; omega
set_option maxHeartbeats 2000000 in
theorem k102_ (m_ : Nat) : ∀ (A_t : Option Addr) (n_t c_t : Nat) (t : List NodeD) (at_ : Int) (i : Nat) (r_Pane : Int) (r_X : Int) (r_Y : Int) (r_W : Int) (r_H : Int) (S : Tr) (w : World) (f_t : SlF encNode w A_t n_t t) (hn : n_t ≤ 268435456) (hat : at_ = (i : Int)) (hS : At t i S) (hr : Fine (⟨r_Pane, r_X, r_Y, r_W, r_H⟩ : RectD)) (hm_ : S.flat.length = m_), Calls Tryz.prog 172 #[.slice A_t n_t c_t, i64 at_, .agg #[i64 r_Pane, i64 r_X, i64 r_Y, i64 r_W, i64 r_H]] w fun e w' => ∃ A c L1, e = .returned (.tuple #[.slice A ((placeS S (⟨r_Pane, r_X, r_Y, r_W, r_H⟩ : RectD)).1).length c, .bool (placeS S (⟨r_Pane, r_X, r_Y, r_W, r_H⟩ : RectD)).2]) ∧ St w [] L1 w' ∧ OwnF encRect 71 (.slice A ((placeS S (⟨r_Pane, r_X, r_Y, r_W, r_H⟩ : RectD)).1).length c) ((placeS S (⟨r_Pane, r_X, r_Y, r_W, r_H⟩ : RectD)).1) L1 := by
 induction m_ using Nat.strongRecOn with
 | ind m_ IH =>
  intro A_t n_t c_t t at_ i r_Pane r_X r_Y r_W r_H S w f_t hn hat hS hr hm_
  subst hat
  have hl := f_t.len
  have hlt := hS.lt
  have hnode := hS.ok (gat encNode t i) (by have := hS.head; exact List.mem_of_mem_head? this)
  have hpb := nodeOk_pane hnode
  obtain ⟨hr0, hr1, hr2, hr3, hr4, hr5, hr6⟩ := id hr
  simp only at hr0 hr1 hr2 hr3 hr4 hr5 hr6
  refine enter 102 Tryz.func172 rfl Tryz.ntmps172 rfl rfl ?_
  have hs1 := St.init w
  refine WC.sr (WL.bx hs1 rfl (fun b2 _ hs3 => WL.r 2 hs3 [] rfl (WL.nil (WC.sr (WL.r 2 hs3 [] rfl ?_)))))
  refine WL.val rfl rfl rfl (Run.idxN Tryz.runUnderlying56 Tryz.sizeOf103 rfl rfl rfl ?_ ?_ ?_) ?_
  · exact SlF.some_ (SlF.st0 f_t hs3)
  · omega
  · omega
  refine WL.val rfl rfl rfl (Run.loadA Tryz.isAgg103 Tryz.sizeOf103 rfl rfl (SlF.whole (SlF.st0 f_t hs3) ?_)) ?_
  · omega
  refine WL.al hs3 Tryz.zeroValue103 rfl rfl (fun b4 _ hs5 => WL.st tbk hs5 0 rfl rfl (fun _ hs6 => WL.nil (WC.seq (fun K7 hK7 => WC.r1 hs6 [0] rfl ?_))))
  refine WC.cD rfl (fun qh8 => ?_) (fun qh8 => ?_)
  ·have hlf : isSplit t i = false := by simp [isSplit]; omega
   have hSe := hS.of_leaf hlf
   subst hSe
   refine WC.sr (WL.r 3 hs6 [0] rfl (WL.st tbk hs6 1 rfl rfl (fun _ hs9 => WL.nil (WC.sr (WL.r 1 hs9 [1] rfl (WL.buildF (F := encRect) hs9 ([⟨(gat encNode t i).Pane, r_X, r_Y, r_W, r_H⟩]) Tryz.runUnderlying158 Tryz.sizeOf71 Tryz.zeroValue71 rfl rfl rfl rfl rfl rfl rfl rfl rfl rfl rfl rfl (fun A13 c14 L10 whs11 hs11 ho12 => ?_)))))))
   replace hs11 := St.back [_, _] hs11
   refine WL.r 2 hs11 [] rfl (WL.nil (WC.ret (tkR ?_)))
   clear hK7
   refine retV2 rfl (resV.tmp rfl) (resV.tmp rfl) (⟨_, _, _, rfl, (St.keep1 (hs11.fr L10)), ho12⟩)
  have hsp : isSplit t i = true := by simp [isSplit]; omega
  obtain ⟨n, a, b, rfl⟩ := hS.of_split hsp
  obtain ⟨hn', ha, hb⟩ := hS.parts
  subst hn'
  have hF : 1 ≤ (gat encNode t i).First ∧ (gat encNode t i).First ≤ 120 := by
    have := hnode; rw [nodeOk, if_pos (by simpa [isSplit] using hsp), within_iff] at this; exact this
  have hle := hS.le
  simp only [Tr.flat, List.length_cons, List.length_append] at hle
  refine WC.skip (hK7 _ _ (WC.sr (WL.r 1 hs6 [1] rfl (WL.al hs6 Tryz.zeroValue71 rfl rfl (fun b15 _ hs16 => WL.st tbk hs16 0 rfl rfl (fun _ hs17 => WL.nil (WC.sr ?_)))))))
  refine WL.r 1 hs17 [2] rfl (WL.al hs17 Tryz.zeroValue71 rfl rfl (fun b18 _ hs19 => WL.st tbk hs19 0 rfl rfl (fun _ hs20 => WL.nil (WC.seq (fun K21 hK21 => WC.r1 hs20 [2] rfl ?_)))))
  refine WC.cq rfl (fun h22 qh22 => ?_) (fun h22 qh22 => ?_)
  ·have hd : (gat encNode t i).Down = true := qh22
   refine WC.seq (fun K23 hK23 => WC.r1 hs20 [3] rfl ?_)
   refine WC.cD rfl (fun qh24 => ?_) (fun qh24 => ?_)
   ·have hpl : placeS (.split (gat encNode t i) a b) (⟨r_Pane, r_X, r_Y, r_W, r_H⟩ : RectD) = ([], false) := by
      have : ¬ 3 ≤ sizeR (gat encNode t i) (⟨r_Pane, r_X, r_Y, r_W, r_H⟩ : RectD) := by simp only [sizeR, hd]; simp; omega
      simp only [placeS, if_neg this]
    refine WC.r1 hs20 [] rfl (WC.ret (tkR (tkR ?_)))
    clear hK23 hK21
    refine retV2 rfl (resV.tmp rfl) (resV.tmp rfl) ?_
    rw [hpl]
    exact ⟨_, _, _, rfl, hs20.nil, OwnF.nil encRect 71⟩
   have hs3 : 3 ≤ sizeR (gat encNode t i) (⟨r_Pane, r_X, r_Y, r_W, r_H⟩ : RectD) := by simp only [sizeR, hd]; simp; omega
   have hfe : firstR (gat encNode t i) (⟨r_Pane, r_X, r_Y, r_W, r_H⟩ : RectD) = ⟨r_Pane, r_X, r_Y, r_W, min (gat encNode t i).First (r_H - 2)⟩ := by simp [firstR, hd]
   have hse : secondR (gat encNode t i) (⟨r_Pane, r_X, r_Y, r_W, r_H⟩ : RectD) = ⟨r_Pane, r_X, r_Y + min (gat encNode t i).First (r_H - 2) + 1, r_W, r_H - min (gat encNode t i).First (r_H - 2) - 1⟩ := by simp [secondR, hd]
   have hpl : placeS (.split (gat encNode t i) a b) (⟨r_Pane, r_X, r_Y, r_W, r_H⟩ : RectD) = ((placeS a ⟨r_Pane, r_X, r_Y, r_W, min (gat encNode t i).First (r_H - 2)⟩).1 ++ (placeS b ⟨r_Pane, r_X, r_Y + min (gat encNode t i).First (r_H - 2) + 1, r_W, r_H - min (gat encNode t i).First (r_H - 2) - 1⟩).1, (placeS a ⟨r_Pane, r_X, r_Y, r_W, min (gat encNode t i).First (r_H - 2)⟩).2 && (placeS b ⟨r_Pane, r_X, r_Y + min (gat encNode t i).First (r_H - 2) + 1, r_W, r_H - min (gat encNode t i).First (r_H - 2) - 1⟩).2) := by simp only [placeS, if_pos hs3, hfe, hse]
   refine WC.skip (hK23 _ _ (WC.sr (WL.r 4 hs20 [2, 3] rfl ?_)))
   refine WL.cl Tryz.call214 rfl (k101_ _ _ _ ?_) ?_
   · first | assumption | rfl | omega
   rintro _ whs25 ⟨rfl, hs25⟩
   replace hs25 := hs20.call0 hs25
   refine ⟨_, rfl, WL.r 1 hs25 [] rfl (WL.st tbk hs25 1 rfl rfl (fun _ hs26 => WL.nil (WC.sr (WL.r 7 hs26 [3, 1] rfl (WL.st tbk hs26 0 rfl rfl (fun _ hs27 => WL.nil ?_))))))⟩
   refine WC.region (WL.r 7 hs27 [3, 1] rfl (WL.st tbk hs27 0 rfl rfl (fun _ hs28 => WL.nil (hK21 _ _ (WC.sr (WL.r 4 hs28 [1] rfl ?_))))))
   refine WL.cl Tryz.call172 rfl (IH _ ?_ _ _ _ _ _ (i + 1) _ _ _ _ _ a _ (SlF.st0 f_t hs28) ?_ ?_ ?_ ?_ rfl) ?_
   · (rw [← hm_]; simp only [Tr.flat, List.length_cons, List.length_append]; omega)
   · exact hn
   · rfl
   · exact ha
   · exact hfe ▸ Fine.first hr hF.1 hs3
   rintro _ whs29 ⟨A30, c31, L1_32, rfl, hs29, ho33⟩
   replace hs29 := hs28.callF hs29
   refine ⟨_, rfl, ?_⟩
   replace hs29 := St.back [_, _, _, _] hs29
   refine WL.r 5 hs29 [] rfl (WL.nil (WC.seq (fun K34 hK34 => WC.rH hs29 hs29 (fun _ hs35 => ?_))))
   refine WH.rn [0, 1, 2, 3, 5] hs35 [0] rfl rfl (WH.o1 4 rfl (WL.cl Tryz.call161 rfl (k85_ _ _ _ _ (i + 1) _ (SlF.st0 f_t hs35) ?_ ?_) ?_))
   iterate 2 omega
   rintro _ whs36 ⟨rfl, hs36⟩
   replace hs36 := hs35.call0 hs36
   refine ⟨_, rfl, WL.nil ⟨hs36, WH.o1 6 rfl (WL.cl Tryz.call172 rfl (IH _ ?_ _ _ _ _ _ (i + 1 + a.flat.length) _ _ _ _ _ b _ (SlF.st0 f_t hs36) ?_ ?_ ?_ ?_ rfl) ?_)⟩⟩
   · (rw [← hm_]; simp only [Tr.flat, List.length_cons, List.length_append]; omega)
   · exact hn
   · (have := ha.sEnd; omega)
   · exact hb
   · exact hse ▸ Fine.second hr hF.1 hs3
   rintro _ whs37 ⟨A38, c39, L1_40, rfl, hs37, ho41⟩
   replace hs37 := hs36.callF hs37
   refine ⟨_, rfl, ?_⟩
   replace hs37 := St.back [_, _, _, _] hs37
   refine WL.nil ⟨(hs37.rm L1_40), WH.rn [7, 8, 9, 10, 11] (hs37.rm L1_40) [] rfl rfl (WH.dn (hK34 _ _ (WC.sr (WL.r 2 hs37 [] rfl ?_))))⟩
   refine WL.appendG (hs37.fr L1_32) ho33 (SlF.src (SlF.ofOwn ho41 (hs37.ow L1_40)) Tryz.underlying158) Tryz.underlying158 inf71 rfl rfl rfl rfl rfl rfl rfl rfl rfl rfl ?_ (fun A45 c46 L42 whs43 hs43 ho44 => ?_)
   · refine Nat.le_trans (Nat.add_le_add placeS_len placeS_len) ?_; omega
   replace hs43 := St.back [_, _, _, _] hs43
   refine WL.r 2 hs43 [] rfl (WL.pA tbk 1 Acts.nil hs43 [] rfl rfl rfl rfl (fun g_ => trivial) (WL.r 2 hs43 [] rfl (WL.nil (WC.ret (retV2 rfl (resV.tmp rfl) (resV.tmp rfl) ?_)))))
   rw [hpl]
   exact ⟨_, _, _, rfl, (St.keep1 (hs43.fr L42)), ho44⟩
  have hd : (gat encNode t i).Down = false := qh22
  refine WC.seq (fun K47 hK47 => WC.r1 hs20 [3] rfl ?_)
  refine WC.cD rfl (fun qh48 => ?_) (fun qh48 => ?_)
  ·have hpl : placeS (.split (gat encNode t i) a b) (⟨r_Pane, r_X, r_Y, r_W, r_H⟩ : RectD) = ([], false) := by
     have : ¬ 3 ≤ sizeR (gat encNode t i) (⟨r_Pane, r_X, r_Y, r_W, r_H⟩ : RectD) := by simp only [sizeR, hd]; simp; omega
     simp only [placeS, if_neg this]
   refine WC.r1 hs20 [] rfl (WC.ret (tkR (tkR ?_)))
   clear hK47 hK21
   refine retV2 rfl (resV.tmp rfl) (resV.tmp rfl) ?_
   rw [hpl]
   exact ⟨_, _, _, rfl, hs20.nil, OwnF.nil encRect 71⟩
  have hs3 : 3 ≤ sizeR (gat encNode t i) (⟨r_Pane, r_X, r_Y, r_W, r_H⟩ : RectD) := by simp only [sizeR, hd]; simp; omega
  have hfe : firstR (gat encNode t i) (⟨r_Pane, r_X, r_Y, r_W, r_H⟩ : RectD) = ⟨r_Pane, r_X, r_Y, min (gat encNode t i).First (r_W - 2), r_H⟩ := by simp [firstR, hd]
  have hse : secondR (gat encNode t i) (⟨r_Pane, r_X, r_Y, r_W, r_H⟩ : RectD) = ⟨r_Pane, r_X + min (gat encNode t i).First (r_W - 2) + 1, r_Y, r_W - min (gat encNode t i).First (r_W - 2) - 1, r_H⟩ := by simp [secondR, hd]
  have hpl : placeS (.split (gat encNode t i) a b) (⟨r_Pane, r_X, r_Y, r_W, r_H⟩ : RectD) = ((placeS a ⟨r_Pane, r_X, r_Y, min (gat encNode t i).First (r_W - 2), r_H⟩).1 ++ (placeS b ⟨r_Pane, r_X + min (gat encNode t i).First (r_W - 2) + 1, r_Y, r_W - min (gat encNode t i).First (r_W - 2) - 1, r_H⟩).1, (placeS a ⟨r_Pane, r_X, r_Y, min (gat encNode t i).First (r_W - 2), r_H⟩).2 && (placeS b ⟨r_Pane, r_X + min (gat encNode t i).First (r_W - 2) + 1, r_Y, r_W - min (gat encNode t i).First (r_W - 2) - 1, r_H⟩).2) := by simp only [placeS, if_pos hs3, hfe, hse]
  refine WC.skip (hK47 _ _ (WC.sr (WL.r 4 hs20 [2, 3] rfl ?_)))
  refine WL.cl Tryz.call214 rfl (k101_ _ _ _ ?_) ?_
  · first | assumption | rfl | omega
  rintro _ whs49 ⟨rfl, hs49⟩
  replace hs49 := hs20.call0 hs49
  refine ⟨_, rfl, WL.r 1 hs49 [] rfl (WL.st tbk hs49 1 rfl rfl (fun _ hs50 => WL.nil (WC.sr (WL.r 7 hs50 [3, 1] rfl (WL.st tbk hs50 0 rfl rfl (fun _ hs51 => WL.nil ?_))))))⟩
  refine WC.region (WL.r 7 hs51 [3, 1] rfl (WL.st tbk hs51 0 rfl rfl (fun _ hs52 => WL.nil (hK21 _ _ (WC.sr (WL.r 4 hs52 [1] rfl ?_))))))
  refine WL.cl Tryz.call172 rfl (IH _ ?_ _ _ _ _ _ (i + 1) _ _ _ _ _ a _ (SlF.st0 f_t hs52) ?_ ?_ ?_ ?_ rfl) ?_
  · (rw [← hm_]; simp only [Tr.flat, List.length_cons, List.length_append]; omega)
  · exact hn
  · rfl
  · exact ha
  · exact hfe ▸ Fine.first hr hF.1 hs3
  rintro _ whs53 ⟨A54, c55, L1_56, rfl, hs53, ho57⟩
  replace hs53 := hs52.callF hs53
  refine ⟨_, rfl, ?_⟩
  replace hs53 := St.back [_, _, _, _] hs53
  refine WL.r 5 hs53 [] rfl (WL.nil (WC.seq (fun K58 hK58 => WC.rH hs53 hs53 (fun _ hs59 => ?_))))
  refine WH.rn [0, 1, 2, 3, 5] hs59 [0] rfl rfl (WH.o1 4 rfl (WL.cl Tryz.call161 rfl (k85_ _ _ _ _ (i + 1) _ (SlF.st0 f_t hs59) ?_ ?_) ?_))
  iterate 2 omega
  rintro _ whs60 ⟨rfl, hs60⟩
  replace hs60 := hs59.call0 hs60
  refine ⟨_, rfl, WL.nil ⟨hs60, WH.o1 6 rfl (WL.cl Tryz.call172 rfl (IH _ ?_ _ _ _ _ _ (i + 1 + a.flat.length) _ _ _ _ _ b _ (SlF.st0 f_t hs60) ?_ ?_ ?_ ?_ rfl) ?_)⟩⟩
  · (rw [← hm_]; simp only [Tr.flat, List.length_cons, List.length_append]; omega)
  · exact hn
  · (have := ha.sEnd; omega)
  · exact hb
  · exact hse ▸ Fine.second hr hF.1 hs3
  rintro _ whs61 ⟨A62, c63, L1_64, rfl, hs61, ho65⟩
  replace hs61 := hs60.callF hs61
  refine ⟨_, rfl, ?_⟩
  replace hs61 := St.back [_, _, _, _] hs61
  refine WL.nil ⟨(hs61.rm L1_64), WH.rn [7, 8, 9, 10, 11] (hs61.rm L1_64) [] rfl rfl (WH.dn (hK58 _ _ (WC.sr (WL.r 2 hs61 [] rfl ?_))))⟩
  refine WL.appendG (hs61.fr L1_56) ho57 (SlF.src (SlF.ofOwn ho65 (hs61.ow L1_64)) Tryz.underlying158) Tryz.underlying158 inf71 rfl rfl rfl rfl rfl rfl rfl rfl rfl rfl ?_ (fun A69 c70 L66 whs67 hs67 ho68 => ?_)
  · refine Nat.le_trans (Nat.add_le_add placeS_len placeS_len) ?_; omega
  replace hs67 := St.back [_, _, _, _] hs67
  refine WL.r 2 hs67 [] rfl (WL.pA tbk 1 Acts.nil hs67 [] rfl rfl rfl rfl (fun g_ => trivial) (WL.r 2 hs67 [] rfl (WL.nil (WC.ret (retV2 rfl (resV.tmp rfl) (resV.tmp rfl) ?_)))))
  rw [hpl]
  exact ⟨_, _, _, rfl, (St.keep1 (hs67.fr L66)), ho68⟩
theorem k103_ (A_t : Option Addr) (n_t c_t : Nat) (t : List NodeD) (at_ : Int) (i : Nat) (r_Pane : Int) (r_X : Int) (r_Y : Int) (r_W : Int) (r_H : Int) (S : Tr) (w : World) (f_t : SlF encNode w A_t n_t t) (hn : n_t ≤ 268435456) (hat : at_ = (i : Int)) (hS : At t i S) (hr : Fine (⟨r_Pane, r_X, r_Y, r_W, r_H⟩ : RectD)) :
    Calls Tryz.prog 172 #[.slice A_t n_t c_t, i64 at_, .agg #[i64 r_Pane, i64 r_X, i64 r_Y, i64 r_W, i64 r_H]] w fun e w' => ∃ A c L1, e = .returned (.tuple #[.slice A ((placeS S (⟨r_Pane, r_X, r_Y, r_W, r_H⟩ : RectD)).1).length c, .bool (placeS S (⟨r_Pane, r_X, r_Y, r_W, r_H⟩ : RectD)).2]) ∧ St w [] L1 w' ∧ OwnF encRect 71 (.slice A ((placeS S (⟨r_Pane, r_X, r_Y, r_W, r_H⟩ : RectD)).1).length c) ((placeS S (⟨r_Pane, r_X, r_Y, r_W, r_H⟩ : RectD)).1) L1 := k102_ _ A_t n_t c_t t at_ i r_Pane r_X r_Y r_W r_H S w f_t hn hat hS hr rfl
set_option maxHeartbeats 2000000 in
theorem k104_ (m_ : Nat) : ∀ (A_t : Option Addr) (n_t c_t : Nat) (t : List NodeD) (at_ : Int) (i : Nat) (r_Pane r_X r_Y r_W r_H : Int) (S : Tr) (b_t b_o b_f b_p : Nat) (A_o : Option Addr) (c_o : Nat) (zs : List RectD) (L_o : Hp) (w : World) (f_t : SlF encNode w A_t n_t t) (g_t : SlF encH w (some ⟨b_t, 0, none⟩) 1 [⟨A_t, n_t, c_t⟩]) (g_p : SlF encFn w (some ⟨b_p, 0, none⟩) 1 [⟨.func 263, [.pointer (some ⟨b_t, 0, none⟩), .pointer (some ⟨b_o, 0, none⟩), .pointer (some ⟨b_f, 0, none⟩), .pointer (some ⟨b_p, 0, none⟩)]⟩]) (o_o : OwnF encRect 71 (.slice A_o zs.length c_o) zs L_o) (hh : ∀ p, p ∈ [(b_o, Obj.cells (List.toArray [.slice A_o (zs).length c_o]) 158 (0, 0)), (b_f, Obj.cells (List.toArray [.bool true]) 4 (0, 0))] ++ L_o → w.heap[p.1]? = some p.2) (hd : (([(b_o, Obj.cells (List.toArray [.slice A_o (zs).length c_o]) 158 (0, 0)), (b_f, Obj.cells (List.toArray [.bool true]) 4 (0, 0))] ++ L_o).map (·.1)).Nodup) (s_t : 0 < n_t → (adr A_t).block ∉ (([(b_o, Obj.cells (List.toArray [.slice A_o (zs).length c_o]) 158 (0, 0)), (b_f, Obj.cells (List.toArray [.bool true]) 4 (0, 0))] ++ L_o).map (·.1))) (v_t : 0 < 1 → (adr (some ⟨b_t, 0, none⟩)).block ∉ (([(b_o, Obj.cells (List.toArray [.slice A_o (zs).length c_o]) 158 (0, 0)), (b_f, Obj.cells (List.toArray [.bool true]) 4 (0, 0))] ++ L_o).map (·.1))) (v_p : 0 < 1 → (adr (some ⟨b_p, 0, none⟩)).block ∉ (([(b_o, Obj.cells (List.toArray [.slice A_o (zs).length c_o]) 158 (0, 0)), (b_f, Obj.cells (List.toArray [.bool true]) 4 (0, 0))] ++ L_o).map (·.1))) (hn : n_t ≤ 268435456) (hat : at_ = (i : Int)) (hS : At t i S) (hr : Fine (⟨r_Pane, r_X, r_Y, r_W, r_H⟩ : RectD)) (hz : zs.length + S.flat.length ≤ 268435456) (hm_ : S.flat.length = m_), Calls Tryz.prog 263 #[i64 at_, .agg #[i64 r_Pane, i64 r_X, i64 r_Y, i64 r_W, i64 r_H], .pointer (some ⟨b_t, 0, none⟩), .pointer (some ⟨b_o, 0, none⟩), .pointer (some ⟨b_f, 0, none⟩), .pointer (some ⟨b_p, 0, none⟩)] w fun e w' => ∃ A c L1, e = .returned (.tuple #[]) ∧ St w (([(b_o, Obj.cells (List.toArray [.slice A_o (zs).length c_o]) 158 (0, 0)), (b_f, Obj.cells (List.toArray [.bool true]) 4 (0, 0))] ++ L_o).map (·.1)) ((b_o, Obj.cells (List.toArray [.slice A (zs ++ (putL S (⟨r_Pane, r_X, r_Y, r_W, r_H⟩ : RectD)).1).length c]) 158 (0, 0)) :: (b_f, Obj.cells (List.toArray [.bool (putL S (⟨r_Pane, r_X, r_Y, r_W, r_H⟩ : RectD)).2]) 4 (0, 0)) :: L1) w' ∧ OwnF encRect 71 (.slice A (zs ++ (putL S (⟨r_Pane, r_X, r_Y, r_W, r_H⟩ : RectD)).1).length c) (zs ++ (putL S (⟨r_Pane, r_X, r_Y, r_W, r_H⟩ : RectD)).1) L1 := by
 induction m_ using Nat.strongRecOn with
 | ind m_ IH =>
  intro A_t n_t c_t t at_ i r_Pane r_X r_Y r_W r_H S b_t b_o b_f b_p A_o c_o zs L_o w f_t g_t g_p o_o hh hd s_t v_t v_p hn hat hS hr hz hm_
  subst hat
  have hl := f_t.len
  have hlt := hS.lt
  have hnode := hS.ok (gat encNode t i) (by have := hS.head; exact List.mem_of_mem_head? this)
  have hpb := nodeOk_pane hnode
  obtain ⟨hr0, hr1, hr2, hr3, hr4, hr5, hr6⟩ := id hr
  simp only at hr0 hr1 hr2 hr3 hr4 hr5 hr6
  have hst0 := St.takeN w [(b_o, Obj.cells (List.toArray [.slice A_o (zs).length c_o]) 158 (0, 0)), (b_f, Obj.cells (List.toArray [.bool true]) 4 (0, 0))] L_o hh hd
  refine enter 56 Tryz.func263 rfl Tryz.ntmps263 rfl rfl ?_
  have hs1 := hst0
  refine WC.sr (WL.bx hs1 rfl (fun b2 _ hs3 => WL.nil (WC.sr (WL.val rfl rfl rfl (Run.load Tryz.isAgg56 rfl rfl (SlF.var (v := .slice A_t n_t c_t) (SlF.st g_t hs3 v_t) rfl)) (WL.r 1 hs3 [] rfl ?_)))))
  refine WL.val rfl rfl rfl (Run.idxK (i) Tryz.runUnderlying56 Tryz.sizeOf103 rfl rfl rfl ?_ ?_ ?_) ?_
  · exact SlF.some_ (SlF.st f_t hs3 s_t)
  · omega
  · omega
  refine WL.val rfl rfl rfl (Run.fieldO Tryz.runUnderlying103 rfl rfl rfl Tryz.sizeOf3 rfl) (WL.val rfl rfl rfl (Run.load Tryz.isAgg3 rfl rfl (SlF.fld (SlF.st f_t hs3 s_t) ?_ rfl)) ?_)
  · omega
  refine WL.r 1 hs3 [] rfl (WL.st tbk hs3 0 rfl rfl (fun _ hs4 => WL.nil (WC.sr (WL.r 2 hs4 [1, 0] rfl (WL.buildSlice hs4 Tryz.runUnderlying158 Tryz.sizeOf71 Tryz.zeroValue71 rfl rfl rfl rfl rfl rfl rfl rfl rfl rfl (fun b5 whs6 hs6 => ?_))))))
  refine WL.appendG (hs6.fr L_o) o_o (srcF (F := encRect) (ys := [⟨(gat encNode t i).Pane, r_X, r_Y, r_W, r_H⟩]) Tryz.underlying158 rfl rfl (hs6.own _ (nthL_mem (i := 0) rfl)).1) Tryz.underlying158 inf71 rfl rfl rfl rfl rfl rfl rfl rfl rfl rfl ?_ (fun A10 c11 L7 whs8 hs8 ho9 => ?_)
  · simp only [List.length_cons, List.length_nil]; omega
  replace hs8 := St.back [_, _, _, _] hs8
  refine WL.st tbk hs8 2 rfl rfl (fun _ hs12 => WL.nil (WC.seq (fun K13 hK13 => WC.sr (WL.val rfl rfl rfl (Run.load Tryz.isAgg56 rfl rfl (SlF.var (v := .slice A_t n_t c_t) (SlF.st g_t hs12 v_t) rfl)) (WL.r 1 hs12 [] rfl ?_)))))
  refine WL.val rfl rfl rfl (Run.idxK (i) Tryz.runUnderlying56 Tryz.sizeOf103 rfl rfl rfl ?_ ?_ ?_) ?_
  · exact SlF.some_ (SlF.st f_t hs12 s_t)
  · omega
  · omega
  refine WL.val rfl rfl rfl (Run.loadA Tryz.isAgg103 Tryz.sizeOf103 rfl rfl (SlF.whole (SlF.st f_t hs12 s_t) ?_)) ?_
  · omega
  refine WL.cl Tryz.call168 rfl (k81_ _ _ _ _) ?_
  rintro _ whs14 ⟨rfl, hs14⟩
  replace hs14 := hs12.call0 hs14
  refine ⟨_, rfl, WL.r 1 hs14 [] rfl (WL.pO tbk 2 Acts.nil hs14 [3] rfl rfl rfl rfl (fun g_ => ⟨rfl, trivial⟩) (WL.nil (WC.cq rfl (fun h15 qh15 => ?_) (fun h15 qh15 => ?_))))⟩
  ·have hlf : isSplit t i = false := by simp at qh15; simp [isSplit]; omega
   have hSe := hS.of_leaf hlf
   subst hSe
   have hpl : putL (.leaf (gat encNode t i)) (⟨r_Pane, r_X, r_Y, r_W, r_H⟩ : RectD) = ([⟨(gat encNode t i).Pane, r_X, r_Y, r_W, r_H⟩], true) := by simp [putL]
   refine WC.ret (tkR ?_)
   clear hK13
   refine retK0' rfl ?_
   rw [hpl]
   have hx_ := OwnF.eqOf (xs := zs ++ [⟨(gat encNode t i).Pane, r_X, r_Y, r_W, r_H⟩]) ho9 (by simp)
   rw [← hx_]
   exact ⟨_, _, _, rfl, St.keep1 (St.front (L1 := (b_o, _) :: (b_f, _) :: L7) [_, _] hs14), ho9⟩
  have hsp : isSplit t i = true := by simp at qh15; simp [isSplit]; omega
  obtain ⟨n, a, b, rfl⟩ := hS.of_split hsp
  obtain ⟨hn', ha, hb⟩ := hS.parts
  subst hn'
  have hF : 1 ≤ (gat encNode t i).First ∧ (gat encNode t i).First ≤ 120 := by
    have := hnode; rw [nodeOk, if_pos (by simpa [isSplit] using hsp), within_iff] at this; exact this
  have hle := hS.le
  simp only [Tr.flat, List.length_cons, List.length_append] at hle
  have hRR : (⟨r_Pane, r_X, r_Y, r_W, r_H⟩ : RectD) = (⟨(gat encNode t i).Pane, r_X, r_Y, r_W, r_H⟩ : RectD) := by
    have h1_ : (gat encNode t i).Pane = 0 := by simpa [isSplit] using hsp
    rw [h1_, hr0]
  refine WC.skip (hK13 _ _ (WC.seq (fun K16 hK16 => ?_)))
  apply WC.join2 (fun b17 b18 => (b17, .cells (List.toArray (encRect.enc (firstR (gat encNode t i) (⟨(gat encNode t i).Pane, r_X, r_Y, r_W, r_H⟩ : RectD)))) _ _) :: (b18, .cells (List.toArray (encRect.enc (secondR (gat encNode t i) (⟨(gat encNode t i).Pane, r_X, r_Y, r_W, r_H⟩ : RectD)))) _ _) :: (b5, _) :: (b2, _) :: (b_o, _) :: (b_f, _) :: _) (fun b17 b18 => [(0, _), (1, _), (2, _), (3, _), (4, _), (5, _), (7, _), (11, _), (12, _), (13, _), (14, _), (15, _), (16, _), (17, _), (18, _), (19, _), (20, _), (21, _), (22, _), (23, _), (24, _), (25, _), (26, _), (29, _), (8, _), (9, _), (10, _)])
  ·refine WC.rH hs14 hs14 (fun _ hs19 => ?_)
   refine WH.take 0 rfl (by kernel_rfl) rfl rfl rfl hs19 (fun w_ hs_ => (Run.load Tryz.isAgg56 rfl rfl (SlF.var (v := .slice A_t n_t c_t) (SlF.st g_t (hs_ : St _ _ _ _) v_t) rfl))) ?_
   refine WH.rn [1] hs19 [] rfl rfl ?_
   refine WH.take 2 rfl (by kernel_rfl) rfl rfl rfl hs19 (fun w_ hs_ => (Run.idxK (i) Tryz.runUnderlying56 Tryz.sizeOf103 rfl rfl rfl ?_ ?_ ?_)) ?_
   · exact SlF.some_ (SlF.st f_t (hs_ : St _ _ _ _) s_t)
   · omega
   · omega
   refine WH.take 3 rfl (by kernel_rfl) rfl rfl rfl hs19 (fun w_ hs_ => (Run.loadA Tryz.isAgg103 Tryz.sizeOf103 rfl rfl (SlF.whole (SlF.st f_t (hs_ : St _ _ _ _) s_t) ?_))) ?_
   · omega
   refine WH.rn [4] hs19 [1] rfl rfl (WH.all [5, 10, 11] (by kernel_rfl) rfl (WHs.cons (i := 5) rfl ?_ (WHs.cons (i := 10) rfl ?_ (WHs.cons (i := 11) rfl ?_ WHs.nil))))
   ·refine WL.cl Tryz.call264 rfl (k100_ _ _ _ _ _ _ _ _ _ ?_) ?_
    · (refine ⟨?_, ?_, ?_, ?_, ?_, ?_, ?_, ?_, ?_, ?_⟩ <;> omega)
    rintro _ whs20 ⟨rfl, hs20⟩
    replace hs20 := hs19.call0 hs20
    refine ⟨_, rfl, WL.nil ⟨hs20, WH.rn [6, 7, 8, 9] hs20 [] rfl rfl (WH.all [10, 11] (by kernel_rfl) rfl (WHs.cons (i := 10) rfl ?_ (WHs.cons (i := 11) rfl ?_ WHs.nil)))⟩⟩
    ·refine WL.al hs20 Tryz.zeroValue71 rfl rfl (fun b21 _ hs22 => WL.nil ⟨hs22.d1, WH.o1 11 rfl (WL.al hs22 Tryz.zeroValue71 rfl rfl (fun b23 _ hs24 => WL.nil ⟨hs24.d1.d1, WH.o1 12 rfl (WL.st tbk hs24 1 rfl rfl (fun _ hs25 => WL.nil ⟨hs25.d1.d1, ?_⟩))⟩))⟩)
     refine WH.o1 13 rfl (WL.st tbk hs25 0 rfl rfl (fun _ hs26 => WL.nil ⟨hs26.d1.d1, WH.rn [14] hs26.d1.d1 [] rfl rfl (WH.dn (⟨rfl, b21, b23, (St.swap [] hs26), ⟨rfl, rfl, rfl, rfl, rfl, rfl, rfl, rfl, rfl, rfl, rfl, rfl, rfl, rfl, rfl, rfl, rfl, rfl, rfl, rfl, rfl, rfl, rfl, rfl, rfl, rfl, rfl, trivial⟩⟩))⟩))
    refine WL.al hs20 Tryz.zeroValue71 rfl rfl (fun b27 _ hs28 => WL.nil ⟨hs28.d1, WH.o1 10 rfl (WL.al hs28 Tryz.zeroValue71 rfl rfl (fun b29 _ hs30 => WL.nil ⟨hs30.d1.d1, WH.o1 12 rfl (WL.st tbk hs30 0 rfl rfl (fun _ hs31 => WL.nil ⟨hs31.d1.d1, ?_⟩))⟩))⟩)
    refine WH.o1 13 rfl (WL.st tbk hs31 1 rfl rfl (fun _ hs32 => WL.nil ⟨hs32.d1.d1, WH.rn [14] hs32.d1.d1 [] rfl rfl (WH.dn (⟨rfl, b29, b27, hs32, ⟨rfl, rfl, rfl, rfl, rfl, rfl, rfl, rfl, rfl, rfl, rfl, rfl, rfl, rfl, rfl, rfl, rfl, rfl, rfl, rfl, rfl, rfl, rfl, rfl, rfl, rfl, rfl, trivial⟩⟩))⟩))
   ·refine WL.al hs19 Tryz.zeroValue71 rfl rfl (fun b33 _ hs34 => WL.nil ⟨hs34.d1, ?_⟩)
    refine WH.all [5, 11] (by kernel_rfl) rfl (WHs.cons (i := 5) rfl ?_ (WHs.cons (i := 11) rfl ?_ WHs.nil))
    ·refine WL.cl Tryz.call264 rfl (k100_ _ _ _ _ _ _ _ _ _ ?_) ?_
     · (refine ⟨?_, ?_, ?_, ?_, ?_, ?_, ?_, ?_, ?_, ?_⟩ <;> omega)
     rintro _ whs35 ⟨rfl, hs35⟩
     replace hs35 := hs34.call0 hs35
     refine ⟨_, rfl, WL.nil ⟨hs35.d1, WH.rn [6, 7, 8, 9] hs35.d1 [] rfl rfl (WH.o1 11 rfl (WL.al hs35 Tryz.zeroValue71 rfl rfl (fun b36 _ hs37 => WL.nil ⟨hs37.d1.d1, WH.o1 12 rfl (WL.st tbk hs37 1 rfl rfl (fun _ hs38 => ?_))⟩)))⟩⟩
     refine WL.nil ⟨hs38.d1.d1, WH.o1 13 rfl (WL.st tbk hs38 0 rfl rfl (fun _ hs39 => WL.nil ⟨hs39.d1.d1, WH.rn [14] hs39.d1.d1 [] rfl rfl (WH.dn (⟨rfl, b33, b36, (St.swap [] hs39), ⟨rfl, rfl, rfl, rfl, rfl, rfl, rfl, rfl, rfl, rfl, rfl, rfl, rfl, rfl, rfl, rfl, rfl, rfl, rfl, rfl, rfl, rfl, rfl, rfl, rfl, rfl, rfl, trivial⟩⟩))⟩))⟩
    refine WL.al hs34 Tryz.zeroValue71 rfl rfl (fun b40 _ hs41 => WL.nil ⟨hs41.d1.d1, WH.o1 5 rfl ?_⟩)
    refine WL.cl Tryz.call264 rfl (k100_ _ _ _ _ _ _ _ _ _ ?_) ?_
    · (refine ⟨?_, ?_, ?_, ?_, ?_, ?_, ?_, ?_, ?_, ?_⟩ <;> omega)
    rintro _ whs42 ⟨rfl, hs42⟩
    replace hs42 := hs41.call0 hs42
    refine ⟨_, rfl, WL.nil ⟨hs42.d1.d1, WH.rn [6, 7, 8, 9] hs42.d1.d1 [] rfl rfl (WH.o1 12 rfl (WL.st tbk hs42 1 rfl rfl (fun _ hs43 => WL.nil ⟨hs43.d1.d1, WH.o1 13 rfl (WL.st tbk hs43 0 rfl rfl (fun _ hs44 => ?_))⟩)))⟩⟩
    refine WL.nil ⟨hs44.d1.d1, WH.rn [14] hs44.d1.d1 [] rfl rfl (WH.dn (⟨rfl, b33, b40, (St.swap [] hs44), ⟨rfl, rfl, rfl, rfl, rfl, rfl, rfl, rfl, rfl, rfl, rfl, rfl, rfl, rfl, rfl, rfl, rfl, rfl, rfl, rfl, rfl, rfl, rfl, rfl, rfl, rfl, rfl, trivial⟩⟩))⟩
   refine WL.al hs19 Tryz.zeroValue71 rfl rfl (fun b45 _ hs46 => WL.nil ⟨hs46.d1, ?_⟩)
   refine WH.all [5, 10] (by kernel_rfl) rfl (WHs.cons (i := 5) rfl ?_ (WHs.cons (i := 10) rfl ?_ WHs.nil))
   ·refine WL.cl Tryz.call264 rfl (k100_ _ _ _ _ _ _ _ _ _ ?_) ?_
    · (refine ⟨?_, ?_, ?_, ?_, ?_, ?_, ?_, ?_, ?_, ?_⟩ <;> omega)
    rintro _ whs47 ⟨rfl, hs47⟩
    replace hs47 := hs46.call0 hs47
    refine ⟨_, rfl, WL.nil ⟨hs47.d1, WH.rn [6, 7, 8, 9] hs47.d1 [] rfl rfl (WH.o1 10 rfl (WL.al hs47 Tryz.zeroValue71 rfl rfl (fun b48 _ hs49 => WL.nil ⟨hs49.d1.d1, WH.o1 12 rfl (WL.st tbk hs49 0 rfl rfl (fun _ hs50 => ?_))⟩)))⟩⟩
    refine WL.nil ⟨hs50.d1.d1, WH.o1 13 rfl (WL.st tbk hs50 1 rfl rfl (fun _ hs51 => WL.nil ⟨hs51.d1.d1, WH.rn [14] hs51.d1.d1 [] rfl rfl (WH.dn (⟨rfl, b48, b45, hs51, ⟨rfl, rfl, rfl, rfl, rfl, rfl, rfl, rfl, rfl, rfl, rfl, rfl, rfl, rfl, rfl, rfl, rfl, rfl, rfl, rfl, rfl, rfl, rfl, rfl, rfl, rfl, rfl, trivial⟩⟩))⟩))⟩
   refine WL.al hs46 Tryz.zeroValue71 rfl rfl (fun b52 _ hs53 => WL.nil ⟨hs53.d1.d1, WH.o1 5 rfl ?_⟩)
   refine WL.cl Tryz.call264 rfl (k100_ _ _ _ _ _ _ _ _ _ ?_) ?_
   · (refine ⟨?_, ?_, ?_, ?_, ?_, ?_, ?_, ?_, ?_, ?_⟩ <;> omega)
   rintro _ whs54 ⟨rfl, hs54⟩
   replace hs54 := hs53.call0 hs54
   refine ⟨_, rfl, WL.nil ⟨hs54.d1.d1, WH.rn [6, 7, 8, 9] hs54.d1.d1 [] rfl rfl (WH.o1 12 rfl (WL.st tbk hs54 0 rfl rfl (fun _ hs55 => WL.nil ⟨hs55.d1.d1, WH.o1 13 rfl (WL.st tbk hs55 1 rfl rfl (fun _ hs56 => ?_))⟩)))⟩⟩
   refine WL.nil ⟨hs56.d1.d1, WH.rn [14] hs56.d1.d1 [] rfl rfl (WH.dn (⟨rfl, b52, b45, hs56, ⟨rfl, rfl, rfl, rfl, rfl, rfl, rfl, rfl, rfl, rfl, rfl, rfl, rfl, rfl, rfl, rfl, rfl, rfl, rfl, rfl, rfl, rfl, rfl, rfl, rfl, rfl, rfl, trivial⟩⟩))⟩
  ·rintro f_hs57 whs57 ⟨b17, b18, hs57, hG58⟩
   replace hs57 : St _ _ _ _ := hs57
   refine hK16 _ _ (WC.sub _ hG58 (WC.seq (fun K59 hK59 => WC.sr (WL.r 1 hs57 [] rfl (WL.st tbk hs57 5 rfl rfl (fun _ hs60 => WL.nil (WC.r1 hs60 [] rfl ?_)))))))
   refine WC.cq rfl (fun h61 qh61 => ?_) (fun h61 qh61 => ?_)
   ·have hs3 : ¬ 3 ≤ sizeR (gat encNode t i) (⟨(gat encNode t i).Pane, r_X, r_Y, r_W, r_H⟩ : RectD) := by simpa using h61
    have hpl : putL (.split (gat encNode t i) a b) (⟨r_Pane, r_X, r_Y, r_W, r_H⟩ : RectD) = ([⟨(gat encNode t i).Pane, r_X, r_Y, r_W, r_H⟩], false) := by rw [hRR]; simp only [putL, if_neg hs3]
    have hdec : decide (3 ≤ sizeR (gat encNode t i) (⟨(gat encNode t i).Pane, r_X, r_Y, r_W, r_H⟩ : RectD)) = false := decide_eq_false hs3
    rw [hdec] at hs60
    refine WC.ret (tkR ?_)
    clear hK59
    refine retK0' rfl ?_
    rw [hpl]
    have hx_ := OwnF.eqOf (xs := zs ++ [⟨(gat encNode t i).Pane, r_X, r_Y, r_W, r_H⟩]) ho9 (by simp)
    rw [← hx_]
    exact ⟨_, _, _, rfl, St.keep1 (St.front (L1 := (b_o, _) :: (b_f, _) :: L7) [_, _, _, _] hs60), ho9⟩
   have hs3 : 3 ≤ sizeR (gat encNode t i) (⟨(gat encNode t i).Pane, r_X, r_Y, r_W, r_H⟩ : RectD) := by simpa using h61
   have hdec : decide (3 ≤ sizeR (gat encNode t i) (⟨(gat encNode t i).Pane, r_X, r_Y, r_W, r_H⟩ : RectD)) = true := decide_eq_true hs3
   rw [hdec] at hs60
   refine WC.skip (hK59 _ _ (WC.sr (WL.val rfl rfl rfl (Run.load Tryz.isAgg272 rfl rfl (SlF.var (SlF.st g_p hs60 v_p) rfl)) (WL.r 3 hs60 [0] rfl ?_))))
   have hF62 := St.front (L1 := (b_o, _) :: (b_f, _) :: L7) [_, _, _, _] hs60
   refine WL.call rfl rfl rfl (Run.callC Tryz.call263 rfl rfl rfl) (IH _ ?_ _ _ _ _ _ (i + 1) _ _ _ _ _ a _ _ _ _ _ _ _ _ _ (SlF.st f_t hF62 s_t) (SlF.st g_t hF62 v_t) (SlF.st g_p hF62 v_p) ho9 (St.ownA hF62) (St.nodupL hF62) (St.sepT hF62 f_t s_t) (St.sepT hF62 g_t v_t) (St.sepT hF62 g_p v_p) ?_ ?_ ?_ ?_ ?_ rfl) ?_
   · rw [← hm_]; simp only [Tr.flat, List.length_cons, List.length_append]; omega
   · exact hn
   · rfl
   · exact ha
   · exact Fine.first (hRR ▸ hr) hF.1 hs3
   · simp only [List.length_append, List.length_cons, List.length_nil]; simp only [Tr.flat, List.length_cons, List.length_append] at hz; omega
   rintro _ whs66 ⟨A63, c64, L65, rfl, hs66, ho67⟩
   replace hs66 := St.lend hF62 hs66
   replace hs66 := St.back [_, _, _, _] hs66
   simp only [List.cons_append, List.nil_append] at hs66
   refine ⟨_, rfl, WL.nil (WC.r1 hs66 [5] rfl (WC.cq rfl (fun h68 qh68 => ?_) (fun h68 qh68 => ?_)))⟩
   ·have hpl : putL (.split (gat encNode t i) a b) (⟨r_Pane, r_X, r_Y, r_W, r_H⟩ : RectD) = (⟨(gat encNode t i).Pane, r_X, r_Y, r_W, r_H⟩ :: ((putL a (firstR (gat encNode t i) (⟨(gat encNode t i).Pane, r_X, r_Y, r_W, r_H⟩ : RectD))).1 ++ (putL b (secondR (gat encNode t i) (⟨(gat encNode t i).Pane, r_X, r_Y, r_W, r_H⟩ : RectD))).1), (putL b (secondR (gat encNode t i) (⟨(gat encNode t i).Pane, r_X, r_Y, r_W, r_H⟩ : RectD))).2) := by rw [hRR]; simp only [putL, if_pos hs3, if_pos h68]
    rw [h68] at hs66
    refine WC.rH (((hs66.fb b_o).d1.fb b_f).d1.rm L65) hs66 (fun _ hs69 => ?_)
    refine WH.take 0 rfl (by kernel_rfl) rfl rfl rfl (((hs69.fb b_o).d1.fb b_f).d1.rm L65) (fun w_ hs_ => (Run.load Tryz.isAgg272 rfl rfl (SlF.var (SlF.st g_p (hs_ : St _ _ _ _) v_p) rfl))) ?_
    refine WH.take 1 rfl (by kernel_rfl) rfl rfl rfl (((hs69.fb b_o).d1.fb b_f).d1.rm L65) (fun w_ hs_ => (Run.load Tryz.isAgg56 rfl rfl (SlF.var (v := .slice A_t n_t c_t) (SlF.st g_t (hs_ : St _ _ _ _) v_t) rfl))) ?_
    refine WH.rn [2, 3, 5] (((hs69.fb b_o).d1.fb b_f).d1.rm L65) [1] rfl rfl (WH.o1 4 rfl (WL.cl Tryz.call165 rfl (k83_ _ _ _ _ _ _ (SlF.st f_t hs69 s_t) ?_) ?_))
    · first | assumption | rfl | omega
    rintro _ whs70 ⟨rfl, hs70⟩
    replace hs70 := hs69.call0 hs70
    refine ⟨_, rfl, WL.nil ⟨(((hs70.fb b_o).d1.fb b_f).d1.rm L65), WH.o1 6 rfl ?_⟩⟩
    have hF71 := St.front (L1 := (b_o, _) :: (b_f, _) :: L65) [_, _, _, _] hs70
    refine WL.call rfl rfl rfl (Run.callC Tryz.call263 rfl rfl rfl) (IH _ ?_ _ _ _ _ _ (i + 1 + a.flat.length) _ _ _ _ _ b _ _ _ _ _ _ _ _ _ (SlF.st f_t hF71 s_t) (SlF.st g_t hF71 v_t) (SlF.st g_p hF71 v_p) ho67 (St.ownA hF71) (St.nodupL hF71) (St.sepT hF71 f_t s_t) (St.sepT hF71 g_t v_t) (St.sepT hF71 g_p v_p) ?_ ?_ ?_ ?_ ?_ rfl) ?_
    · rw [← hm_]; simp only [Tr.flat, List.length_cons, List.length_append]; omega
    · exact hn
    · have h_ : endI t ((i : Int) + 1) = (i + 1 + a.flat.length : Nat) := ha.endI
      omega
    · exact hb
    · exact Fine.second (hRR ▸ hr) hF.1 hs3
    · simp only [List.length_append, List.length_cons, List.length_nil]; simp only [Tr.flat, List.length_cons, List.length_append] at hz
      refine Nat.le_trans (Nat.add_le_add_right (Nat.add_le_add_left putL_len _) _) ?_
      omega
    rintro _ whs75 ⟨A72, c73, L74, rfl, hs75, ho76⟩
    replace hs75 := St.lend hF71 hs75
    replace hs75 := St.back [_, _, _, _] hs75
    simp only [List.cons_append, List.nil_append] at hs75
    refine ⟨_, rfl, WL.nil ⟨(((hs75.fb b_o).d1.fb b_f).d1.rm L74), WH.dn (retK0 rfl ?_)⟩⟩
    rw [hpl]
    have hx_ := OwnF.eqOf (xs := zs ++ (⟨(gat encNode t i).Pane, r_X, r_Y, r_W, r_H⟩ :: ((putL a (firstR (gat encNode t i) (⟨(gat encNode t i).Pane, r_X, r_Y, r_W, r_H⟩ : RectD))).1 ++ (putL b (secondR (gat encNode t i) (⟨(gat encNode t i).Pane, r_X, r_Y, r_W, r_H⟩ : RectD))).1))) ho76 (by simp)
    rw [← hx_]
    exact ⟨_, _, _, rfl, St.keep1 (St.front (L1 := (b_o, _) :: (b_f, _) :: L74) [_, _, _, _] hs75), ho76⟩
   have hpl : putL (.split (gat encNode t i) a b) (⟨r_Pane, r_X, r_Y, r_W, r_H⟩ : RectD) = (⟨(gat encNode t i).Pane, r_X, r_Y, r_W, r_H⟩ :: (putL a (firstR (gat encNode t i) (⟨(gat encNode t i).Pane, r_X, r_Y, r_W, r_H⟩ : RectD))).1, false) := by
     have : ¬ (putL a (firstR (gat encNode t i) (⟨(gat encNode t i).Pane, r_X, r_Y, r_W, r_H⟩ : RectD))).2 = true := by simpa using h68
     rw [hRR]; simp only [putL, if_pos hs3, if_neg this]
   rw [h68] at hs66
   refine WC.skip (retK0 rfl ?_)
   rw [hpl]
   have hx_ := OwnF.eqOf (xs := zs ++ (⟨(gat encNode t i).Pane, r_X, r_Y, r_W, r_H⟩ :: (putL a (firstR (gat encNode t i) (⟨(gat encNode t i).Pane, r_X, r_Y, r_W, r_H⟩ : RectD))).1)) ho67 (by simp)
   rw [← hx_]
   exact ⟨_, _, _, rfl, St.keep1 (St.front (L1 := (b_o, _) :: (b_f, _) :: L65) [_, _, _, _] hs66), ho67⟩
theorem k105_ (A_t : Option Addr) (n_t c_t : Nat) (t : List NodeD) (at_ : Int) (i : Nat) (r_Pane r_X r_Y r_W r_H : Int) (S : Tr) (b_t b_o b_f b_p : Nat) (A_o : Option Addr) (c_o : Nat) (zs : List RectD) (L_o : Hp) (w : World) (f_t : SlF encNode w A_t n_t t) (g_t : SlF encH w (some ⟨b_t, 0, none⟩) 1 [⟨A_t, n_t, c_t⟩]) (g_p : SlF encFn w (some ⟨b_p, 0, none⟩) 1 [⟨.func 263, [.pointer (some ⟨b_t, 0, none⟩), .pointer (some ⟨b_o, 0, none⟩), .pointer (some ⟨b_f, 0, none⟩), .pointer (some ⟨b_p, 0, none⟩)]⟩]) (o_o : OwnF encRect 71 (.slice A_o zs.length c_o) zs L_o) (hh : ∀ p, p ∈ [(b_o, Obj.cells (List.toArray [.slice A_o (zs).length c_o]) 158 (0, 0)), (b_f, Obj.cells (List.toArray [.bool true]) 4 (0, 0))] ++ L_o → w.heap[p.1]? = some p.2) (hd : (([(b_o, Obj.cells (List.toArray [.slice A_o (zs).length c_o]) 158 (0, 0)), (b_f, Obj.cells (List.toArray [.bool true]) 4 (0, 0))] ++ L_o).map (·.1)).Nodup) (s_t : 0 < n_t → (adr A_t).block ∉ (([(b_o, Obj.cells (List.toArray [.slice A_o (zs).length c_o]) 158 (0, 0)), (b_f, Obj.cells (List.toArray [.bool true]) 4 (0, 0))] ++ L_o).map (·.1))) (v_t : 0 < 1 → (adr (some ⟨b_t, 0, none⟩)).block ∉ (([(b_o, Obj.cells (List.toArray [.slice A_o (zs).length c_o]) 158 (0, 0)), (b_f, Obj.cells (List.toArray [.bool true]) 4 (0, 0))] ++ L_o).map (·.1))) (v_p : 0 < 1 → (adr (some ⟨b_p, 0, none⟩)).block ∉ (([(b_o, Obj.cells (List.toArray [.slice A_o (zs).length c_o]) 158 (0, 0)), (b_f, Obj.cells (List.toArray [.bool true]) 4 (0, 0))] ++ L_o).map (·.1))) (hn : n_t ≤ 268435456) (hat : at_ = (i : Int)) (hS : At t i S) (hr : Fine (⟨r_Pane, r_X, r_Y, r_W, r_H⟩ : RectD)) (hz : zs.length + S.flat.length ≤ 268435456) :
    Calls Tryz.prog 263 #[i64 at_, .agg #[i64 r_Pane, i64 r_X, i64 r_Y, i64 r_W, i64 r_H], .pointer (some ⟨b_t, 0, none⟩), .pointer (some ⟨b_o, 0, none⟩), .pointer (some ⟨b_f, 0, none⟩), .pointer (some ⟨b_p, 0, none⟩)] w fun e w' => ∃ A c L1, e = .returned (.tuple #[]) ∧ St w (([(b_o, Obj.cells (List.toArray [.slice A_o (zs).length c_o]) 158 (0, 0)), (b_f, Obj.cells (List.toArray [.bool true]) 4 (0, 0))] ++ L_o).map (·.1)) ((b_o, Obj.cells (List.toArray [.slice A (zs ++ (putL S (⟨r_Pane, r_X, r_Y, r_W, r_H⟩ : RectD)).1).length c]) 158 (0, 0)) :: (b_f, Obj.cells (List.toArray [.bool (putL S (⟨r_Pane, r_X, r_Y, r_W, r_H⟩ : RectD)).2]) 4 (0, 0)) :: L1) w' ∧ OwnF encRect 71 (.slice A (zs ++ (putL S (⟨r_Pane, r_X, r_Y, r_W, r_H⟩ : RectD)).1).length c) (zs ++ (putL S (⟨r_Pane, r_X, r_Y, r_W, r_H⟩ : RectD)).1) L1 := k104_ _ A_t n_t c_t t at_ i r_Pane r_X r_Y r_W r_H S b_t b_o b_f b_p A_o c_o zs L_o w f_t g_t g_p o_o hh hd s_t v_t v_p hn hat hS hr hz rfl
theorem built_71_3_4 (x0 : Int) (x1 : Int) : Tryz.prog.built 71 [(3, .int .i64 x0), (4, .int .i64 x1)] = some (List.toArray [.int .i64 0, .int .i64 0, .int .i64 0, .int .i64 x0, .int .i64 x1]) := by kernel_rfl
theorem k106_ (A_t : Option Addr) (n_t c_t : Nat) (t : List NodeD) (w_ : Int) (h_ : Int) (w : World) (f_t : SlF encNode w A_t n_t t) (hn : n_t ≤ 268435456) (hk : treeOk t = true) (hw : within w_ 1 120 = true) (hh : within h_ 1 120 = true) :
    Calls Tryz.prog 215 #[.slice A_t n_t c_t, i64 w_, i64 h_] w fun e w' => ∃ A c L1, e = .returned (.tuple #[.slice A ((putL (theT t) ⟨0, 0, 0, w_, h_⟩).1).length c, .bool (putL (theT t) ⟨0, 0, 0, w_, h_⟩).2]) ∧ St w [] L1 w' ∧ OwnF encRect 71 (.slice A ((putL (theT t) ⟨0, 0, 0, w_, h_⟩).1).length c) ((putL (theT t) ⟨0, 0, 0, w_, h_⟩).1) L1 := by
 have hl := f_t.len
 refine enter 20 Tryz.func215 rfl Tryz.ntmps215 rfl rfl ?_
 have hs1 := St.init w
 refine WC.sr (WL.bx hs1 rfl (fun b2 _ hs3 => WL.r 2 hs3 [] rfl (WL.nil (WC.sr (WL.buildF (F := encRect) hs3 ([]) Tryz.runUnderlying158 Tryz.sizeOf71 Tryz.zeroValue71 rfl rfl rfl rfl rfl rfl rfl rfl rfl rfl rfl rfl (fun A7 c8 L4 whs5 hs5 ho6 => ?_))))))
 replace hs5 := St.back [_] hs5
 refine WL.al hs5 Tryz.zeroValue158 rfl rfl (fun b9 _ hs10 => WL.al hs10 Tryz.zeroValue4 rfl rfl (fun b11 _ hs12 => WL.st tbk hs12 1 rfl rfl (fun _ hs13 => WL.st tbk hs13 0 rfl rfl (fun _ hs14 => WL.nil (WC.sr (WL.al hs14 Tryz.zeroValue272 rfl rfl (fun b15 _ hs16 => WL.nil ?_)))))))
 refine WC.sr (WL.val rfl rfl rfl (Run.makeFunc rfl rfl) (WL.st tbk hs16 0 rfl rfl (fun _ hs17 => WL.nil (WC.sr (WL.r 3 hs17 [0] rfl ?_)))))
 refine WL.val rfl rfl rfl (Run.build rfl rfl rfl rfl (built_71_3_4 _ _)) ?_
 replace hs17 := ((((hs17.fb b11).fb b9).fb b2).fb b15)
 have hF18 := St.front (L1 := (b9, _) :: (b11, _) :: L4) [_, _] hs17
 refine WL.call rfl rfl rfl (Run.callC Tryz.call263 rfl rfl rfl) (k105_ _ _ _ _ _ 0 _ _ _ _ _ (theT t) _ _ _ _ _ _ _ _ _ (SlF.st0 f_t hF18) (SlF.own1 (hs17.own _ (nthL_mem (i := 1) rfl)).1) (SlF.own1 (hs17.own _ (nthL_mem (i := 0) rfl)).1) ho6 (St.ownA hF18) (St.nodupL hF18) (St.sep hF18 f_t) (fun _ => St.sepOwn hF18 (List.mem_append_left _ (List.mem_cons_of_mem _ List.mem_cons_self))) (fun _ => St.sepOwn hF18 (List.mem_append_left _ List.mem_cons_self)) ?_ ?_ ?_ ?_ ?_) ?_
 · omega
 · rfl
 · exact (theT_at hk).1
 · exact fine0 hw hh
 · rw [(theT_at hk).2.1]; simp; omega
 rintro _ whs22 ⟨A19, c20, L21, rfl, hs22, ho23⟩
 replace hs22 := St.lend hF18 hs22
 replace hs22 := St.back [_, _] hs22
 simp only [List.cons_append, List.nil_append] at hs22
 refine ⟨_, rfl, WL.nil (WC.q1 hs22 [2, 3] rfl (fun _ hs24 => WC.ret (retV2 rfl (resV.tmp rfl) (resV.tmp rfl) ?_)))⟩
 have hx_ := OwnF.eqOf (xs := (putL (theT t) ⟨0, 0, 0, w_, h_⟩).1) ho23 (by simp)
 rw [← hx_]
 first | exact ⟨_, _, _, rfl, (St.keep1 (hs24.fr L21)), ho23⟩ | exact ⟨A19, c20, _, by rw [OwnF.len_ ho23], (St.keep1 (hs24.fr L21)), by rw [OwnF.len_ ho23]; exact ho23⟩
theorem k107_ (A_t : Option Addr) (n_t c_t : Nat) (t : List NodeD) (w_ : Int) (h_ : Int) (w : World) (f_t : SlF encNode w A_t n_t t) (hn : n_t ≤ 268435456) :
    Calls Tryz.prog 173 #[.slice A_t n_t c_t, i64 w_, i64 h_] w fun e w' => ∃ A c L1, e = .returned (.tuple #[.slice A (areasL t w_ h_).length c, .bool (placesOk t w_ h_)]) ∧ St w [] L1 w' ∧ OwnF encRect 71 (.slice A (areasL t w_ h_).length c) (areasL t w_ h_) L1 := by
 have hl := f_t.len
 refine enter 27 Tryz.func173 rfl Tryz.ntmps173 rfl rfl ?_
 have hs1 := St.init w
 refine WC.r1 hs1 [] rfl (WC.seq (fun K2 hK2 => WC.sr (WL.r 1 hs1 [] rfl ?_)))
 refine WL.cl Tryz.call106 rfl (k94_ _ _ _ _ _ (SlF.st0 f_t hs1) ?_) ?_
 · first | assumption | rfl | omega
 rintro _ whs3 ⟨rfl, hs3⟩
 replace hs3 := hs1.call0 hs3
 refine ⟨_, rfl, WL.r 2 hs3 [] rfl ?_⟩
 apply WL.gO 3 Acts.nil hs3 rfl
 ·intro g4 J5
  have qg4 := g4
  try simp only [bf, within_iff, within_not] at qg4
  refine WL.runA tbk 1 (Acts.nil.cons (j := 3) rfl g4) hs3 [] rfl trivial (WL.call (wantF rfl g4) rfl rfl (Run.call Tryz.call58 rfl rfl rfl) (k0_ _ _ _ _) ?_)
  rintro _ whs6 ⟨rfl, hs6⟩
  replace hs6 := hs3.call0 hs6
  refine ⟨_, rfl, WL.runA tbk 1 (Acts.nil.cons (j := 3) rfl g4) hs6 [] rfl trivial (WL.eO 3 Acts.nil J5 hs6 g4 rfl rfl)⟩
 intro _ hs7
 refine WL.r 1 hs7 [] rfl ?_
 apply WL.gO 3 Acts.nil hs7 rfl
 ·intro g8 J9
  have qg8 := g8
  try simp only [bf, within_iff, within_not] at qg8
  refine WL.runA tbk 1 (Acts.nil.cons (j := 8) rfl g8) hs7 [] rfl trivial (WL.call (wantF rfl g8) rfl rfl (Run.call Tryz.call58 rfl rfl rfl) (k0_ _ _ _ _) ?_)
  rintro _ whs10 ⟨rfl, hs10⟩
  replace hs10 := hs7.call0 hs10
  refine ⟨_, rfl, WL.runA tbk 1 (Acts.nil.cons (j := 8) rfl g8) hs10 [] rfl trivial (WL.eO 3 Acts.nil J9 hs10 g8 rfl rfl)⟩
 intro _ hs11
 refine WL.nil (WC.cq rfl (fun h12 qh12 => ?_) (fun h12 qh12 => ?_))
 ·have hk : sidesOk t w_ h_ = false := by
    rw [← Bool.not_eq_true]; intro h_1
    simp only [sidesOk, Bool.and_eq_true] at h_1
    simp [h_1] at h12
  refine WC.r1 hs11 [] rfl (WC.ret (tkR ?_))
  clear hK2
  refine retV2 rfl (resV.tmp rfl) (resV.tmp rfl) ?_
  rw [show placesOk t w_ h_ = false by simp [placesOk, hk]]
  have hx_ := OwnF.eqOf (xs := areasL t w_ h_) (OwnF.nil encRect 71) (by simp [areasL, hk])
  rw [← hx_]
  exact ⟨_, _, _, rfl, hs11.nil, (OwnF.nil encRect 71)⟩
 have hk : treeOk t = true ∧ within w_ 1 120 = true ∧ within h_ 1 120 = true := by simp at h12; exact ⟨h12.1.1, h12.1.2, h12.2⟩
 have hs : sidesOk t w_ h_ = true := by simp [sidesOk, hk]
 refine WC.skip (hK2 _ _ (WC.sr (WL.r 3 hs11 [] rfl ?_)))
 refine WL.cl Tryz.call215 rfl (k106_ _ _ _ _ _ _ _ (SlF.st0 f_t hs11) ?_ ?_ ?_ ?_) ?_
 · omega
 · exact hk.1
 · exact hk.2.1
 · exact hk.2.2
 rintro _ whs13 ⟨A14, c15, L1_16, rfl, hs13, ho17⟩
 replace hs13 := hs11.callF hs13
 refine ⟨_, rfl, WL.r 4 hs13 [] rfl (WL.nil (WC.ret (retV2 rfl (resV.tmp rfl) (resV.tmp rfl) ?_)))⟩
 rw [show placesOk t w_ h_ = (putL (theT t) ⟨0, 0, 0, w_, h_⟩).2 by simp [placesOk, hs, put_eq hk.1]]
 have hx_ := OwnF.eqOf (xs := areasL t w_ h_) ho17 (by simp [areasL, hs])
 rw [← hx_]
 first | exact ⟨_, _, _, rfl, (St.keep1 hs13), ho17⟩ | exact ⟨A14, c15, _, by rw [OwnF.len_ ho17], (St.keep1 hs13), by rw [OwnF.len_ ho17]; exact ho17⟩
theorem k108_ (r_Pane : Int) (r_X : Int) (r_Y : Int) (r_W : Int) (r_H : Int) (w : World) :
    Calls Tryz.prog 175 #[.agg #[i64 r_Pane, i64 r_X, i64 r_Y, i64 r_W, i64 r_H]] w fun e w' => e = .returned (.bool (decide (r_Pane = 0))) ∧ St w [] [] w' := by
 refine enter 6 Tryz.func175 rfl Tryz.ntmps175 rfl rfl ?_
 have hs1 := St.init w
 refine WC.sr (WL.bx hs1 rfl (fun b2 _ hs3 => WL.r 1 hs3 [] rfl (WL.nil (WC.r1 hs3 [0] rfl (WC.ret (rtv rfl rfl hs3 ?_))))))
 rfl
theorem k109_ (A_s : Option Addr) (n_s c_s : Nat) (s : List RectD) (w : World) (f_s : SlF encRect w A_s n_s s) (hn : n_s ≤ 1099511627776) :
    Calls Tryz.prog 113 #[.slice A_s n_s c_s, .func (.func 175) #[] #[]] w fun e w' => e = .returned (.int .i64 (findI (fun r : RectD => decide (r.Pane = 0)) s)) ∧ St w [] [] w' := by
 refine enter 19 Tryz.func113 rfl Tryz.ntmps113 rfl rfl ?_
 have hs1 := St.init w
 refine WC.r1 hs1 [] rfl (WC.seq (fun K2 hK2 => WC.r1 hs1 [] rfl (WC.block ?_)))
 refine WC.lS [0, 1, 7] rfl hs1 (fun k_ f w' => ∃ (i : Nat), k_ = n_s - i ∧ (i ≤ n_s) ∧ (∀ j, j < i → (fun r : RectD => decide (r.Pane = 0)) (gat encRect s j) = false) ∧ Sub [(8, .int .i64 i)] f) ((fun (i : Nat) => n_s - i) (0)) ?_ ?_
 ·refine ⟨0, rfl, ?_, ?_, ⟨rfl, trivial⟩⟩
  · exact Nat.zero_le _
  · exact fun j hj => absurd hj (by omega)
 clear hs1
 rintro _ f w ⟨i, rfl, p0, p1, hG⟩ hF hs3
 refine WC.sub _ (hG.app hF) ?_
 clear hG hF
 refine WC.r1 hs3 [] rfl (WC.seq (fun K4 hK4 => ?_))
 refine WC.cond rfl (fun h5 => ?_) (fun h5 => ?_)
 ·have qh5 := h5
  try simp only [decide_eq_true_eq, decide_eq_false_iff_not] at qh5
  refine WC.skip (hK4 _ _ (WC.seq (fun K6 hK6 => WC.block (WC.r1 hs3 [] rfl (WC.sr (WL.r 3 hs3 [] rfl ?_))))))
  refine WL.val rfl rfl rfl (Run.idxN Tryz.runUnderlying158 Tryz.sizeOf71 rfl rfl rfl ?_ ?_ ?_) ?_
  · exact SlF.some_ (SlF.st0 f_s hs3)
  · omega
  · omega
  refine WL.val rfl rfl rfl (Run.loadA Tryz.isAgg71 Tryz.sizeOf71 rfl rfl (SlF.whole (SlF.st0 f_s hs3) ?_)) ?_
  · omega
  refine WL.cl Tryz.call175 rfl (k108_ _ _ _ _ _ _) ?_
  rintro _ whs7 ⟨rfl, hs7⟩
  replace hs7 := hs3.call0 hs7
  refine ⟨_, rfl, WL.nil (WC.cond rfl (fun h8 => ?_) (fun h8 => ?_))⟩
  ·have qh8 := h8
   try simp only [decide_eq_true_eq, decide_eq_false_iff_not] at qh8
   refine WC.r1 hs7 [] rfl (WC.ret (ibR (tkR (tkR (ibR (tkR ?_))))))
   clear hK6 hK2
   refine rtv rfl rfl hs7 ?_
   rw [findI_some (F := encRect) (by rw [f_s.len]; omega) p1 h8]
  have qh8 := h8
  try simp only [decide_eq_true_eq, decide_eq_false_iff_not] at qh8
  refine WC.skip (hK6 _ _ (WC.region (WL.r 2 hs7 [] rfl (WL.nil (tkN ?_)))))
  refine ⟨sbF rfl, hs7, _, ?_, i + 1, rfl, ?_, ?_, ⟨rfl, trivial⟩⟩
  · omega
  · omega
  · intro j hj; rcases Nat.lt_or_ge j i with h_ | h_
    · exact p1 j h_
    · obtain rfl : j = i := by omega
      exact h8
 have qh5 := h5
 try simp only [decide_eq_true_eq, decide_eq_false_iff_not] at qh5
 refine WC.exit (hK2 _ _ (WC.r1 hs3 [] rfl (WC.ret (rtv rfl rfl hs3 ?_))))
 rw [findI_none (F := encRect) (fun j hj => p1 j (by rw [f_s.len] at hj; omega))]
theorem k110_ (v_s : Value) (s : List RectD) (L_s : Hp) (w : World) (o_s : OwnF encRect 71 v_s s L_s) (h_s : Hh w L_s) (hn : s.length ≤ 268435456) :
    Calls Tryz.prog 174 #[v_s, .func (.func 175) #[] #[]] w fun e w' => ∃ A c L1, e = .returned (.slice A (s.filter (fun r : RectD => !decide (r.Pane = 0))).length c) ∧ St w (L_s.map (·.1)) L1 w' ∧ OwnF encRect 71 (.slice A (s.filter (fun r : RectD => !decide (r.Pane = 0))).length c) (s.filter (fun r : RectD => !decide (r.Pane = 0))) L1 := by
 obtain ⟨A_s, c_s, rfl⟩ := o_s.shape
 refine enter 42 Tryz.func174 rfl Tryz.ntmps174 rfl rfl ?_
 have hs1 := St.lent1 w L_s o_s h_s
 refine WC.r1 hs1 [] rfl (WC.sr (WL.r 2 hs1 [] rfl (WL.cl Tryz.call113 rfl (k109_ _ _ _ _ _ (SlF.ofOwn o_s (hs1.ow L_s)) ?_) ?_)))
 · first | assumption | rfl | omega
 rintro _ whs2 ⟨rfl, hs2⟩
 replace hs2 := hs1.call0 hs2
 refine ⟨_, rfl, WL.r 1 hs2 [] rfl (WL.nil (WC.seq (fun K3 hK3 => WC.r1 hs2 [] rfl ?_)))⟩
 refine WC.cq rfl (fun h4 qh4 => ?_) (fun h4 qh4 => ?_)
 ·have hall : s.filter (fun r : RectD => !decide (r.Pane = 0)) = s := by
    rcases findI_cases (p := fun r : RectD => decide (r.Pane = 0)) (xs := s) with ⟨_, h1_⟩ | ⟨i1, _, h1_, _⟩
    · exact filter_none h1_
    · omega
  refine WC.r1 hs2 [] rfl (WC.ret (tkR ?_))
  clear hK3
  refine retV1 rfl (resV.tmp rfl) ?_
  have hx_ := OwnF.eqOf (xs := s.filter (fun r : RectD => !decide (r.Pane = 0))) o_s (by rw [hall])
  rw [← hx_]
  first | exact ⟨_, _, _, rfl, (St.keep1 hs2), o_s⟩ | exact ⟨A_s, c_s, _, by rw [OwnF.len_ o_s], (St.keep1 hs2), by rw [OwnF.len_ o_s]; exact o_s⟩
 obtain ⟨i0, hi0, hf0, hp0, hb0⟩ : ∃ i0 : Nat, ∃ hi : i0 < s.length, findI (fun r : RectD => decide (r.Pane = 0)) s = (i0 : Int) ∧ decide (s[i0].Pane = 0) = true ∧ ∀ j (hj : j < i0), decide ((s[j]'(by omega)).Pane = 0) = false := by
   rcases findI_cases (p := fun r : RectD => decide (r.Pane = 0)) (xs := s) with ⟨h1_, _⟩ | ⟨i1, hi, h1_, h2_, h3_⟩
   · omega
   · exact ⟨i1, hi, h1_, h2_, h3_⟩
 rw [hf0]
 have hinit : s.take i0 = (s.take (i0 + 1)).filter (fun r : RectD => !decide (r.Pane = 0)) := by
   rw [filter_take (F := encRect) hi0]
   have hg : gat encRect s i0 = s[i0] := by have e_ := gat_get (F := encRect) hi0; rw [List.getElem?_eq_getElem hi0] at e_; exact (Option.some.inj e_).symm
   rw [if_neg (by rw [hg]; simpa using hp0), List.append_nil, filter_none]
   intro x hx
   obtain ⟨j, hj, rfl⟩ := List.mem_iff_getElem.1 hx
   rw [List.length_take] at hj
   rw [List.getElem_take]
   exact hb0 j (by omega)
 refine WC.skip (hK3 _ _ (WC.seq (fun K5 hK5 => WC.r1 hs2 [] rfl (WC.block ?_))))
 refine WC.lO [1, 4, 12] rfl hs2 (fun k_ f L_ => ∃ (zs : List RectD) (i j : Nat), k_ = s.length - j ∧ (i < j) ∧ (j ≤ s.length) ∧ (zs.length = s.length) ∧ (zs.take i = (s.take j).filter (fun r : RectD => !decide (r.Pane = 0))) ∧ (∀ k, j ≤ k → gat encRect zs k = gat encRect s k) ∧ OwnF encRect 71 (.slice A_s (s.length) c_s) (zs) L_ ∧ Sub [(0, .slice A_s (s.length) c_s), (5, .int .i64 i), (6, .int .i64 j)] f) (((fun (zs : List RectD) (i j : Nat) => s.length - j) (s) (i0) ((i0 + 1)))) ?_ ?_
 ·refine ⟨s, i0, (i0 + 1), rfl, ?_, ?_, ?_, ?_, ?_, o_s, ⟨rfl, rfl, rfl, trivial⟩⟩
  · omega
  · omega
  · rfl
  · exact hinit
  · exact fun k _ => rfl
 clear hs2
 rintro _ f w L8 ⟨zs, i, j, rfl, p0, p1, p2, p3, p4, ho9, hG⟩ hF hs10
 refine WC.sub _ (hG.app hF) ?_
 clear hG hF
 refine WC.seq (fun K11 hK11 => WC.r1 hs10 [] rfl ?_)
 refine WC.cq rfl (fun h12 qh12 => ?_) (fun h12 qh12 => ?_)
 ·refine WC.skip (hK11 _ _ (WC.seq (fun K13 hK13 => WC.block (WC.sr (WL.r 2 hs10 [] rfl ?_)))))
  refine WL.val rfl rfl rfl (Run.idxN Tryz.runUnderlying158 Tryz.sizeOf71 rfl rfl rfl ?_ ?_ ?_) ?_
  · exact SlF.some_ (SlF.ofOwn ho9 (hs10.ow L8))
  · omega
  · omega
  refine WL.val rfl rfl rfl (Run.loadA Tryz.isAgg71 Tryz.sizeOf71 rfl rfl (SlF.whole (SlF.ofOwn ho9 (hs10.ow L8)) ?_)) ?_
  · omega
  refine WL.al hs10 Tryz.zeroValue71 rfl rfl (fun b14 _ hs15 => WL.st tbk hs15 0 rfl rfl (fun _ hs16 => WL.nil (WC.sr (WL.r 2 hs16 [0] rfl (WL.cl Tryz.call175 rfl (k108_ _ _ _ _ _ _) ?_)))))
  rintro _ whs17 ⟨rfl, hs17⟩
  replace hs17 := hs16.call0 hs17
  refine ⟨_, rfl, WL.r 1 hs17 [] rfl (WL.nil (WC.cq rfl (fun h18 qh18 => ?_) (fun h18 qh18 => ?_)))⟩
  ·refine WC.sr (WL.r 3 hs17 [0] rfl (WL.val rfl rfl rfl (Run.idxN Tryz.runUnderlying158 Tryz.sizeOf71 rfl rfl rfl ?_ ?_ ?_) ?_))
   · exact SlF.some_ (SlF.ofOwn ho9 (hs17.ow L8))
   · omega
   · omega
   refine WL.storeF1 (x' := (gat encRect zs j)) (hs17.fr L8) ho9 Tryz.sizeOf71 rfl rfl rfl rfl rfl rfl rfl rfl rfl ?_ rfl (fun L19 whs20 hs20 ho21 _ => ?_)
   · omega
   replace hs20 := St.back [_] hs20
   refine WL.nil (WC.region (WL.r 3 hs20 [] rfl (WL.nil (hK13 _ _ (WC.region (WL.r 3 hs20 [] rfl (WL.nil ?_)))))))
   refine tkN ?_
   replace hs20 := hs20.d1
   refine ⟨sbF rfl, _, hs20, _, ?_, _, (i + 1), (j + 1), rfl, ?_, ?_, ?_, ?_, ?_, ho21, ⟨rfl, rfl, rfl, trivial⟩⟩
   · omega
   · omega
   · omega
   · first | omega | (rw [List.length_set]; omega)
   · first | (rw [set_take (by omega), p3, filter_take (F := encRect) (by omega), if_pos (by rw [← p4 j (Nat.le_refl _)]; simpa using h18), p4 j (Nat.le_refl _)]) | (rw [p3, filter_take (F := encRect) (by omega), if_neg (by rw [← p4 j (Nat.le_refl _)]; simpa using h18), List.append_nil])
   · intro k hk; first | (rw [gat_set_ne (by omega)]; exact p4 k (by omega)) | exact p4 k (by omega)
  refine WC.skip (hK13 _ _ (WC.region (WL.r 3 hs17 [] rfl (WL.nil (tkN ?_)))))
  replace hs17 := hs17.d1
  refine ⟨sbF rfl, _, hs17, _, ?_, _, i, (j + 1), rfl, ?_, ?_, ?_, ?_, ?_, ho9, ⟨rfl, rfl, rfl, trivial⟩⟩
  · omega
  · omega
  · omega
  · first | omega | (rw [List.length_set]; omega)
  · first | (rw [set_take (by omega), p3, filter_take (F := encRect) (by omega), if_pos (by rw [← p4 j (Nat.le_refl _)]; simpa using h18), p4 j (Nat.le_refl _)]) | (rw [p3, filter_take (F := encRect) (by omega), if_neg (by rw [← p4 j (Nat.le_refl _)]; simpa using h18), List.append_nil])
  · intro k hk; first | (rw [gat_set_ne (by omega)]; exact p4 k (by omega)) | exact p4 k (by omega)
 refine WC.exit (hK5 _ _ (WC.sr (WL.r 2 hs10 [] rfl ?_)))
 have hc_ := OwnF.cap ho9
 refine WL.val rfl rfl rfl (Run.sliceL (i) Tryz.runUnderlying158 Tryz.sizeOf71 rfl rfl rfl ?_ ?_) ?_
 · first | rfl | (omega)
 · refine ⟨?_, ?_, ?_⟩ <;> (omega)
 refine WL.clearF (lo := i) hs10 ho9 Tryz.underlying158 Tryz.zeroValue71 rfl rfl rfl rfl rfl ?_ (fun L22 whs23 hs23 ho24 _ => ?_)
 · omega
 refine WL.nil (WC.sr (WL.r 2 hs23 [] rfl ?_))
 have ho25 := OwnF.take (k := i) ho24 (by omega)
 have hcho25 := OwnF.cap ho25
 refine WL.val rfl rfl rfl (Run.sliceH0 (i) Tryz.runUnderlying158 Tryz.sizeOf71 rfl rfl rfl ?_ ?_) ?_
 · first | rfl | (omega)
 · first | (exact Nat.zero_le _) | (omega)
 refine WL.r 1 hs23 [] rfl (WL.nil (WC.ret (retV1 rfl (resV.tmp rfl) ?_)))
 have hx_ := OwnF.eqOf (xs := s.filter (fun r : RectD => !decide (r.Pane = 0))) ho25 (by first | (rw [List.take_left' (by rw [List.length_take]; omega), p3, List.take_of_length_le (by omega)]) | (rw [List.take_append_of_le_length (by rw [List.length_take]; omega), List.take_take, Nat.min_self, p3, List.take_of_length_le (by omega)]))
 rw [← hx_]
 first | exact ⟨_, _, _, rfl, (St.keep1 hs23), ho25⟩ | exact ⟨A_s, c_s, _, by rw [OwnF.len_ ho25], (St.keep1 hs23), by rw [OwnF.len_ ho25]; exact ho25⟩
theorem k111_ (A_t : Option Addr) (n_t c_t : Nat) (t : List NodeD) (w_ : Int) (h_ : Int) (w : World) (f_t : SlF encNode w A_t n_t t) (hn : n_t ≤ 268435456) :
    Calls Tryz.prog 112 #[.slice A_t n_t c_t, i64 w_, i64 h_] w fun e w' => ∃ A c L1, e = .returned (.tuple #[.slice A (placesL t w_ h_).length c, .bool (placesOk t w_ h_)]) ∧ St w [] L1 w' ∧ OwnF encRect 71 (.slice A (placesL t w_ h_).length c) (placesL t w_ h_) L1 := by
 have hal := areasL_len t w_ h_
 refine enter 21 Tryz.func112 rfl Tryz.ntmps112 rfl rfl ?_
 have hs1 := St.init w
 refine WC.r1 hs1 [] rfl (WC.sr (WL.r 3 hs1 [] rfl (WL.cl Tryz.call173 rfl (k107_ _ _ _ _ _ _ _ (SlF.st0 f_t hs1) ?_) ?_)))
 · first | assumption | rfl | omega
 rintro _ whs2 ⟨A3, c4, L1_5, rfl, hs2, ho6⟩
 replace hs2 := hs1.callF hs2
 refine ⟨_, rfl, WL.r 5 hs2 [] rfl (WL.nil (WC.seq (fun K7 hK7 => WC.r1 hs2 [] rfl ?_)))⟩
 refine WC.cq rfl (fun h8 qh8 => ?_) (fun h8 qh8 => ?_)
 ·have hk : placesOk t w_ h_ = false := by simpa using h8
  refine WC.r1 hs2 [] rfl (WC.ret (tkR ?_))
  clear hK7
  refine retV2 rfl (resV.tmp rfl) (resV.tmp rfl) ?_
  rw [hk]
  have hx_ := OwnF.eqOf (xs := placesL t w_ h_) (OwnF.nil encRect 71) (by simp [placesL, hk])
  rw [← hx_]
  exact ⟨_, _, _, rfl, hs2.nil, (OwnF.nil encRect 71)⟩
 have hk : placesOk t w_ h_ = true := by simpa using h8
 have haf := areas_filter hk
 refine WC.skip (hK7 _ _ (WC.sr (WL.r 1 hs2 [] rfl ?_)))
 refine WL.cl Tryz.call174 rfl (k110_ _ _ _ _ ho6 (hs2.ow L1_5) ?_) ?_
 · first | assumption | rfl | omega
 rintro _ whs9 ⟨A10, c11, L1_12, rfl, hs9, ho13⟩
 replace hs9 := St.lend hs2 hs9
 refine ⟨_, rfl, WL.r 2 hs9 [] rfl (WL.nil (WC.ret (retV2 rfl (resV.tmp rfl) (resV.tmp rfl) ?_)))⟩
 rw [hk]
 have hx_ := OwnF.eqOf (xs := placesL t w_ h_) ho13 (by rw [haf])
 rw [← hx_]
 first | exact ⟨_, _, _, rfl, (St.keep1 hs9), ho13⟩ | exact ⟨A10, c11, _, by rw [OwnF.len_ ho13], (St.keep1 hs9), by rw [OwnF.len_ ho13]; exact ho13⟩
theorem k112_ (A_t : Option Addr) (n_t c_t : Nat) (t : List NodeD) (w_ : Int) (h_ : Int) (w : World) (f_t : SlF encNode w A_t n_t t) (hn : n_t ≤ 268435456) :
    Calls Tryz.prog 111 #[.slice A_t n_t c_t, i64 w_, i64 h_] w fun e w' => ∃ A c L1, e = .returned (.tuple #[.slice A (placesL t w_ h_).length c, .bool (placesOk t w_ h_)]) ∧ St w [] L1 w' ∧ OwnF encRect 71 (.slice A (placesL t w_ h_).length c) (placesL t w_ h_) L1 := by
 have hl := f_t.len
 refine enter 40 Tryz.func111 rfl Tryz.ntmps111 rfl rfl ?_
 have hs1 := St.init w
 refine WC.r1 hs1 [] rfl (WC.seq (fun K2 hK2 => WC.sr (WL.r 1 hs1 [] rfl ?_)))
 refine WL.cl Tryz.call101 rfl (k90_ _ _ _ _ _ (SlF.st0 f_t hs1) ?_) ?_
 · first | assumption | rfl | omega
 rintro _ whs3 ⟨rfl, hs3⟩
 replace hs3 := hs1.call0 hs3
 refine ⟨_, rfl, WL.r 2 hs3 [] rfl (WL.pO tbk 2 Acts.nil hs3 [] rfl rfl rfl rfl (fun g_ => trivial) (WL.r 1 hs3 [] rfl (WL.pO tbk 2 Acts.nil hs3 [] rfl rfl rfl rfl (fun g_ => trivial) (WL.r 1 hs3 [] rfl (WL.pO tbk 2 Acts.nil hs3 [] rfl rfl rfl rfl (fun g_ => trivial) (WL.r 1 hs3 [] rfl ?_))))))⟩
 refine WL.pO tbk 2 Acts.nil hs3 [] rfl rfl rfl rfl (fun g_ => trivial) (WL.nil (WC.cq rfl (fun h4 qh4 => ?_) (fun h4 qh4 => ?_)))
 ·have hk : placesOk t w_ h_ = false := by
    rw [← Bool.not_eq_true]; intro h_1
    simp only [placesOk, sidesOk, Bool.and_eq_true, within_iff] at h_1
    obtain ⟨⟨⟨a1_, a2_⟩, a3_⟩, _⟩ := h_1
    simp only [a1_, Bool.not_true, Bool.false_or, Bool.or_eq_true, decide_eq_true_eq] at h4; omega
  refine WC.r1 hs3 [] rfl (WC.ret (tkR ?_))
  clear hK2
  refine retV2 rfl (resV.tmp rfl) (resV.tmp rfl) ?_
  rw [hk]
  have hx_ := OwnF.eqOf (xs := placesL t w_ h_) (OwnF.nil encRect 71) (by simp [placesL, hk])
  rw [← hx_]
  exact ⟨_, _, _, rfl, hs3.nil, (OwnF.nil encRect 71)⟩
 have hs : treeOk t = true ∧ within w_ 1 120 = true ∧ within h_ 1 120 = true := by
   simp only [Bool.or_eq_false_iff, Bool.not_eq_false', decide_eq_false_iff_not] at h4
   exact ⟨h4.1.1.1.1, within_iff.2 ⟨by omega, by omega⟩, within_iff.2 ⟨by omega, by omega⟩⟩
 have hso : sidesOk t w_ h_ = true := by simp [sidesOk, hs]
 refine WC.skip (hK2 _ _ (WC.sr (WL.r 3 hs3 [] rfl ?_)))
 refine WL.val rfl rfl rfl (Run.build rfl rfl rfl rfl (built_71_3_4 _ _)) (WL.cl Tryz.call172 rfl (k103_ _ _ _ _ _ 0 _ _ _ _ _ (theT t) _ (SlF.st0 f_t hs3) ?_ ?_ ?_ ?_) ?_)
 · omega
 · rfl
 · exact (theT_at hs.1).1
 · exact fine0 hs.2.1 hs.2.2
 rintro _ whs5 ⟨A6, c7, L1_8, rfl, hs5, ho9⟩
 replace hs5 := hs3.callF hs5
 refine ⟨_, rfl, WL.r 5 hs5 [] rfl (WL.nil (WC.seq (fun K10 hK10 => WC.r1 hs5 [] rfl ?_)))⟩
 refine WC.cq rfl (fun h11 qh11 => ?_) (fun h11 qh11 => ?_)
 ·have hk : placesOk t w_ h_ = false := by simpa [placesOk, hso] using h11
  refine WC.r1 hs5 [] rfl (WC.ret (tkR ?_))
  clear hK10
  refine retV2 rfl (resV.tmp rfl) (resV.tmp rfl) ?_
  rw [hk]
  have hx_ := OwnF.eqOf (xs := placesL t w_ h_) (OwnF.nil encRect 71) (by simp [placesL, hk])
  rw [← hx_]
  exact ⟨_, _, _, rfl, hs5.nil, (OwnF.nil encRect 71)⟩
 have hk : placesOk t w_ h_ = true := by simpa [placesOk, hso] using h11
 refine WC.skip (hK10 _ _ (WC.r1 hs5 [] rfl (WC.ret (retV2 rfl (resV.tmp rfl) (resV.tmp rfl) ?_))))
 rw [hk]
 have hx_ := OwnF.eqOf (xs := placesL t w_ h_) ho9 (by simp [placesL, hk])
 rw [← hx_]
 first | exact ⟨_, _, _, rfl, (St.keep1 hs5), ho9⟩ | exact ⟨A6, c7, _, by rw [OwnF.len_ ho9], (St.keep1 hs5), by rw [OwnF.len_ ho9]; exact ho9⟩
theorem built_71 : Tryz.prog.built 71 [] = some (List.toArray [.int .i64 0, .int .i64 0, .int .i64 0, .int .i64 0, .int .i64 0]) := by kernel_rfl
theorem k113_ (r_Pane : Int) (r_X : Int) (r_Y : Int) (r_W : Int) (r_H : Int) (b_p : Nat) (p : Int) (w : World) (f_p : SlF encI w (some ⟨b_p, 0, none⟩) 1 [p]) :
    Calls Tryz.prog 114 #[.agg #[i64 r_Pane, i64 r_X, i64 r_Y, i64 r_W, i64 r_H], .pointer (some ⟨b_p, 0, none⟩)] w fun e w' => e = .returned (.bool (decide (r_Pane = p))) ∧ St w [] [] w' := by
 refine enter 8 Tryz.func114 rfl Tryz.ntmps114 rfl rfl ?_
 have hs1 := St.init w
 refine WC.sr (WL.bx hs1 rfl (fun b2 _ hs3 => WL.r 1 hs3 [] rfl (WL.nil (WC.sr (WL.r 2 hs3 [0] rfl (WL.val rfl rfl rfl (Run.load Tryz.isAgg3 rfl rfl (SlF.var (SlF.st0 f_p hs3) rfl)) (WL.r 2 hs3 [] rfl ?_)))))))
 refine WL.nil (WC.ret (rtv rfl rfl hs3 ?_))
 rfl
theorem k114_ (A_s : Option Addr) (n_s c_s : Nat) (s : List RectD) (b_p : Nat) (p : Int) (w : World) (f_s : SlF encRect w A_s n_s s) (f_p : SlF encI w (some ⟨b_p, 0, none⟩) 1 [p]) (hn : n_s ≤ 1099511627776) :
    Calls Tryz.prog 113 #[.slice A_s n_s c_s, .func (.func 114) #[] #[.pointer (some ⟨b_p, 0, none⟩)]] w fun e w' => e = .returned (.int .i64 (findI (fun r : RectD => decide (r.Pane = p)) s)) ∧ St w [] [] w' := by
 refine enter 19 Tryz.func113 rfl Tryz.ntmps113 rfl rfl ?_
 have hs1 := St.init w
 refine WC.r1 hs1 [] rfl (WC.seq (fun K2 hK2 => WC.r1 hs1 [] rfl (WC.block ?_)))
 refine WC.lS [0, 1, 7] rfl hs1 (fun k_ f w' => ∃ (i : Nat), k_ = n_s - i ∧ (i ≤ n_s) ∧ (∀ j, j < i → (fun r : RectD => decide (r.Pane = p)) (gat encRect s j) = false) ∧ Sub [(8, .int .i64 i)] f) ((fun (i : Nat) => n_s - i) (0)) ?_ ?_
 ·refine ⟨0, rfl, ?_, ?_, ⟨rfl, trivial⟩⟩
  · exact Nat.zero_le _
  · exact fun j hj => absurd hj (by omega)
 clear hs1
 rintro _ f w ⟨i, rfl, p0, p1, hG⟩ hF hs3
 refine WC.sub _ (hG.app hF) ?_
 clear hG hF
 refine WC.r1 hs3 [] rfl (WC.seq (fun K4 hK4 => ?_))
 refine WC.cond rfl (fun h5 => ?_) (fun h5 => ?_)
 ·have qh5 := h5
  try simp only [decide_eq_true_eq, decide_eq_false_iff_not] at qh5
  refine WC.skip (hK4 _ _ (WC.seq (fun K6 hK6 => WC.block (WC.r1 hs3 [] rfl (WC.sr (WL.r 3 hs3 [] rfl ?_))))))
  refine WL.val rfl rfl rfl (Run.idxN Tryz.runUnderlying158 Tryz.sizeOf71 rfl rfl rfl ?_ ?_ ?_) ?_
  · exact SlF.some_ (SlF.st0 f_s hs3)
  · omega
  · omega
  refine WL.val rfl rfl rfl (Run.loadA Tryz.isAgg71 Tryz.sizeOf71 rfl rfl (SlF.whole (SlF.st0 f_s hs3) ?_)) ?_
  · omega
  refine WL.call rfl rfl rfl (Run.callC Tryz.call114 rfl rfl rfl) (k113_ _ _ _ _ _ _ _ _ (SlF.st0 f_p hs3)) ?_
  rintro _ whs7 ⟨rfl, hs7⟩
  replace hs7 := hs3.call0 hs7
  refine ⟨_, rfl, WL.nil (WC.cond rfl (fun h8 => ?_) (fun h8 => ?_))⟩
  ·have qh8 := h8
   try simp only [decide_eq_true_eq, decide_eq_false_iff_not] at qh8
   refine WC.r1 hs7 [] rfl (WC.ret (ibR (tkR (tkR (ibR (tkR ?_))))))
   clear hK6 hK2
   refine rtv rfl rfl hs7 ?_
   rw [findI_some (F := encRect) (by rw [f_s.len]; omega) p1 h8]
  have qh8 := h8
  try simp only [decide_eq_true_eq, decide_eq_false_iff_not] at qh8
  refine WC.skip (hK6 _ _ (WC.region (WL.r 2 hs7 [] rfl (WL.nil (tkN ?_)))))
  refine ⟨sbF rfl, hs7, _, ?_, i + 1, rfl, ?_, ?_, ⟨rfl, trivial⟩⟩
  · omega
  · omega
  · intro j hj; rcases Nat.lt_or_ge j i with h_ | h_
    · exact p1 j h_
    · obtain rfl : j = i := by omega
      exact h8
 have qh5 := h5
 try simp only [decide_eq_true_eq, decide_eq_false_iff_not] at qh5
 refine WC.exit (hK2 _ _ (WC.r1 hs3 [] rfl (WC.ret (rtv rfl rfl hs3 ?_))))
 rw [findI_none (F := encRect) (fun j hj => p1 j (by rw [f_s.len] at hj; omega))]
theorem k115_ (A_t : Option Addr) (n_t c_t : Nat) (t : List NodeD) (w_ : Int) (h_ : Int) (p : Int) (w : World) (f_t : SlF encNode w A_t n_t t) (hn : n_t ≤ 268435456) :
    Calls Tryz.prog 52 #[.slice A_t n_t c_t, i64 w_, i64 h_, i64 p] w fun e w' => e = .returned (.tuple #[.agg (encRect.enc (placeR t w_ h_ p)).toArray, .bool (decide (0 ≤ placeAt t w_ h_ p))]) ∧ St w [] [] w' := by
 have hpl := placesL_len t w_ h_
 have hpa := placeAt_lt t w_ h_ p
 refine enter 30 Tryz.func52 rfl Tryz.ntmps52 rfl rfl ?_
 have hs1 := St.init w
 refine WC.sr (WL.bx hs1 rfl (fun b2 _ hs3 => WL.al hs3 Tryz.zeroValue71 rfl rfl (fun b4 _ hs5 => WL.r 1 hs5 [] rfl (WL.nil (WC.sr (WL.r 3 hs5 [] rfl ?_))))))
 refine WL.cl Tryz.call112 rfl (k111_ _ _ _ _ _ _ _ (SlF.st0 f_t hs5) ?_) ?_
 · first | assumption | rfl | omega
 rintro _ whs6 ⟨A7, c8, L1_9, rfl, hs6, ho10⟩
 replace hs6 := hs5.callF hs6
 refine ⟨_, rfl, ?_⟩
 replace hs6 := St.back [_, _] hs6
 refine WL.r 5 hs6 [] rfl (WL.nil (WC.sr (WL.r 1 hs6 [] rfl (WL.val rfl rfl rfl (Run.makeFunc rfl rfl) (WL.cl Tryz.call113 rfl (k114_ _ _ _ _ _ _ _ (SlF.ofOwn ho10 (hs6.ow L1_9)) (SlF.own1 (hs6.own _ (nthL_mem (i := 1) rfl)).1) ?_) ?_)))))
 · first | assumption | rfl | omega
 rintro _ whs11 ⟨rfl, hs11⟩
 replace hs11 := hs6.call0 hs11
 refine ⟨_, rfl, WL.r 1 hs11 [] rfl (WL.nil (WC.seq (fun K12 hK12 => WC.r1 hs11 [] rfl ?_)))⟩
 refine WC.cD rfl (fun qh13 => ?_) (fun qh13 => ?_)
 ·have hk : ¬ 0 ≤ placeAt t w_ h_ p := by show ¬ 0 ≤ findI _ _; omega
  refine WC.sr ?_
  refine WL.val rfl rfl rfl (Run.build rfl rfl rfl rfl (built_71)) (WL.st tbk hs11 0 rfl rfl (fun _ hs14 => WL.r 1 hs14 [] rfl (WL.nil (WC.ret (tkR ?_)))))
  clear hK12
  refine retV2 rfl (resV.cellA tbk hs14 0 rfl rfl rfl rfl) (resV.tmp rfl) (⟨congrArg Ending.returned ?_, hs14.nil⟩)
  rw [placeR, if_neg hk, decide_eq_false hk]; rfl
 have hk : 0 ≤ placeAt t w_ h_ p := by show 0 ≤ findI _ _; omega
 have hpe : findI (fun r : RectD => decide (r.Pane = p)) (placesL t w_ h_) = placeAt t w_ h_ p := rfl
 refine WC.skip (hK12 _ _ (WC.sr (WL.r 2 hs11 [] rfl ?_)))
 refine WL.val rfl rfl rfl (Run.idxK ((placeAt t w_ h_ p).toNat) Tryz.runUnderlying158 Tryz.sizeOf71 rfl rfl rfl ?_ ?_ ?_) ?_
 · exact SlF.some_ (SlF.ofOwn ho10 (hs11.ow L1_9))
 · omega
 · omega
 refine WL.val rfl rfl rfl (Run.loadA Tryz.isAgg71 Tryz.sizeOf71 rfl rfl (SlF.whole (SlF.ofOwn ho10 (hs11.ow L1_9)) ?_)) ?_
 · omega
 refine WL.st tbk hs11 0 rfl rfl (fun _ hs15 => WL.r 1 hs15 [] rfl (WL.nil (WC.ret (retV2 rfl (resV.cellA tbk hs15 0 rfl rfl rfl rfl) (resV.tmp rfl) (⟨congrArg Ending.returned ?_, hs15.nil⟩)))))
 rw [placeR, if_pos hk, decide_eq_true hk]; rfl
theorem k116_ (A_t : Option Addr) (n_t c_t : Nat) (t : List NodeD) (w_ : Int) (h_ : Int) (p : Int) (w : World) (f_t : SlF encNode w A_t n_t t) (hn : n_t ≤ 268435456) :
    Calls Tryz.prog 51 #[.slice A_t n_t c_t, i64 w_, i64 h_, i64 p] w fun e w' => e = .returned (.tuple #[.agg (encRect.enc (placeR t w_ h_ p)).toArray, .bool (decide (0 ≤ placeAt t w_ h_ p))]) ∧ St w [] [] w' := by
 have hpl := placesL_len t w_ h_
 refine enter 34 Tryz.func51 rfl Tryz.ntmps51 rfl rfl ?_
 have hs1 := St.init w
 refine WC.sr (WL.al hs1 Tryz.zeroValue71 rfl rfl (fun b2 _ hs3 => WL.r 1 hs3 [] rfl (WL.nil (WC.sr (WL.r 3 hs3 [] rfl ?_)))))
 refine WL.cl Tryz.call111 rfl (k112_ _ _ _ _ _ _ _ (SlF.st0 f_t hs3) ?_) ?_
 · first | assumption | rfl | omega
 rintro _ whs4 ⟨A5, c6, L1_7, rfl, hs4, ho8⟩
 replace hs4 := hs3.callF hs4
 refine ⟨_, rfl, ?_⟩
 replace hs4 := St.back [_] hs4
 refine WL.r 5 hs4 [] rfl (WL.nil (WC.seq (fun K9 hK9 => WC.r1 hs4 [] rfl (WC.block ?_))))
 refine WC.lS [3, 8, 21, 22] rfl hs4 (fun k_ f w' => ∃ (i : Nat), k_ = (placesL t w_ h_).length - i ∧ (i ≤ (placesL t w_ h_).length) ∧ (∀ j, j < i → (fun r : RectD => decide (r.Pane = p)) (gat encRect (placesL t w_ h_) j) = false) ∧ Sub [(23, .int .i64 i)] f) ((fun (i : Nat) => (placesL t w_ h_).length - i) (0)) ?_ ?_
 ·refine ⟨0, rfl, ?_, ?_, ⟨rfl, trivial⟩⟩
  · exact Nat.zero_le _
  · exact fun j hj => absurd hj (by omega)
 clear hs4
 rintro _ f w ⟨i, rfl, p0, p1, hG⟩ hF hs10
 refine WC.sub _ (hG.app hF) ?_
 clear hG hF
 refine WC.r1 hs10 [] rfl (WC.seq (fun K11 hK11 => ?_))
 refine WC.cq rfl (fun h12 qh12 => ?_) (fun h12 qh12 => ?_)
 ·refine WC.skip (hK11 _ _ (WC.seq (fun K13 hK13 => WC.block (WC.sr ?_))))
  refine WL.val rfl rfl rfl (Run.idxN Tryz.runUnderlying158 Tryz.sizeOf71 rfl rfl rfl ?_ ?_ ?_) ?_
  · exact SlF.some_ (SlF.ofOwn ho8 (hs10.ow L1_7))
  · omega
  · omega
  refine WL.val rfl rfl rfl (Run.loadA Tryz.isAgg71 Tryz.sizeOf71 rfl rfl (SlF.whole (SlF.ofOwn ho8 (hs10.ow L1_7)) ?_)) ?_
  · omega
  refine WL.al hs10 Tryz.zeroValue71 rfl rfl (fun b14 _ hs15 => WL.st tbk hs15 0 rfl rfl (fun _ hs16 => WL.nil (WC.r1 hs16 [0] rfl ?_)))
  refine WC.cq rfl (fun h17 qh17 => ?_) (fun h17 qh17 => ?_)
  ·have hfi : placeAt t w_ h_ p = (i : Int) := findI_some (F := encRect) (by omega) p1 h17
   refine WC.sr (WL.r 1 hs16 [0] rfl (WL.st tbk hs16 1 rfl rfl (fun _ hs18 => WL.r 1 hs18 [] rfl (WL.nil (WC.ret (ibR (tkR (tkR (ibR (tkR ?_))))))))))
   clear hK13 hK9
   refine retV2 rfl (resV.cellA tbk hs18 1 rfl rfl rfl rfl) (resV.tmp rfl) (⟨congrArg Ending.returned ?_, hs18.nil⟩)
   rw [placeR, hfi, if_pos (by omega), decide_eq_true (by omega)]; rfl
  refine WC.skip (hK13 _ _ (WC.region (WL.r 2 hs16 [] rfl (WL.nil (tkN ?_)))))
  refine ⟨sbF rfl, (hs16.drop (by repeat (first | exact List.Sublist.refl _ | exact List.sublist_append_left _ _ | exact List.Sublist.trans (List.sublist_append_left _ _) (List.sublist_append_left _ _) | apply List.Sublist.cons | refine List.Sublist.trans ?_ (sR _)))), _, ?_, i + 1, rfl, ?_, ?_, ⟨rfl, trivial⟩⟩
  · omega
  · omega
  · intro j hj; rcases Nat.lt_or_ge j i with h_0 | h_0
    · exact p1 j h_0
    · obtain rfl : j = i := by omega
      exact h17
 have hfi : placeAt t w_ h_ p = -1 := findI_none (F := encRect) (fun j hj => p1 j (by omega))
 refine WC.exit (hK9 _ _ (WC.sr ?_))
 refine WL.val rfl rfl rfl (Run.build rfl rfl rfl rfl (built_71)) (WL.st tbk hs10 0 rfl rfl (fun _ hs19 => WL.r 1 hs19 [] rfl (WL.nil (WC.ret (retV2 rfl (resV.cellA tbk hs19 0 rfl rfl rfl rfl) (resV.tmp rfl) (⟨congrArg Ending.returned ?_, hs19.nil⟩))))))
 rw [placeR, hfi]; rfl
theorem k117_ (s : StateR) (p : Int) (w : World) (f_s : okStateR 549755813888 w s) (hT : totState s.dat ≤ 1048576) :
    Calls Tryz.prog 17 #[.agg #[i64 s.W, i64 s.H, i64 s.Limit, i64 s.Next, .slice s.Panes.A s.Panes.n s.Panes.c, .slice s.Wins.A s.Wins.n s.Wins.c, .slice s.Sess.A s.Sess.n s.Sess.c], i64 p] w fun e w' => e = .returned (.tuple #[.int .i64 (areaD s.dat p).1, .int .i64 (areaD s.dat p).2]) ∧ St w [] [] w' := by
 have nb_s_Panes := f_s.Panes_n
 have nl_s_Panes := f_s.Panes.sl.len
 have nb_s_Wins := f_s.Wins_n
 have nl_s_Wins := f_s.Wins.sl.len
 have nb_s_Sess := f_s.Sess_n
 have nl_s_Sess := f_s.Sess.sl.len
 have hsm0 : smState 1048576 s.dat := totState_sm hT
 have hWn : ∀ y, y ∈ s.Wins.xs → y.Tree.n ≤ 1048576 := fun y hy => by have h1 := (f_s.Wins.all y hy).Tree.len; have h2 : y.Tree.xs.length ≤ 1048576 := (hsm0.2.2.2.1 _ (List.mem_map_of_mem hy)).2; omega
 refine enter 47 Tryz.func17 rfl Tryz.ntmps17 rfl rfl ?_
 have hs1 := St.init w
 refine WC.sr (WL.bx hs1 rfl (fun b2 _ hs3 => WL.r 2 hs3 [] rfl (WL.nil (WC.sr (WL.r 2 hs3 [0] rfl ?_)))))
 refine WL.cl Tryz.call14 rfl (k98_ s _ _ (okStateR.st0 f_s hs3) ?_) ?_
 · first | assumption | rfl | omega
 rintro _ whs4 ⟨rfl, hs4⟩
 replace hs4 := hs3.call0 hs4
 refine ⟨_, rfl, WL.r 1 hs4 [] rfl (WL.nil (WC.seq (fun K5 hK5 => WC.r1 hs4 [] rfl ?_)))⟩
 refine WC.cq rfl (fun h6 qh6 => ?_) (fun h6 qh6 => ?_)
 ·have hfd : s.dat.Wins.find? (winHas p) = none := by rw [find_findI, if_neg (by have h9 := h6; simp at h9; omega)]
  have hAD : areaD s.dat p = (0, 0) := by unfold areaD; rw [hfd]
  refine WC.r1 hs4 [] rfl (WC.ret (tkR ?_))
  clear hK5
  refine retV2 rfl (resV.tmp rfl) (resV.tmp rfl) (⟨congrArg Ending.returned ?_, hs4.nil⟩)
  rw [hAD]
 have hk0 : 0 ≤ (findI (winHas p) s.dat.Wins) := by have h9 := h6; simp at h9; omega
 have hlt : (findI (winHas p) s.dat.Wins).toNat < s.Wins.xs.length := by have h9 := findI_lt (p := winHas p) (xs := s.dat.Wins); have h8 : s.dat.Wins.length = s.Wins.xs.length := List.length_map _; omega
 have hfd : s.dat.Wins.find? (winHas p) = some (gat encWinR s.Wins.xs (findI (winHas p) s.dat.Wins).toNat).dat := by rw [find_findI, if_pos hk0, show s.dat.Wins = s.Wins.xs.map WinR.dat from rfl, List.getElem?_map, gat_get (F := encWinR) (by exact hlt)]; rfl
 have hAD : areaD s.dat p = areaW s.dat p (gat encWinR s.Wins.xs (findI (winHas p) s.dat.Wins).toNat).dat := by unfold areaD; rw [hfd]
 have hWi := hWn (gat encWinR s.Wins.xs (findI (winHas p) s.dat.Wins).toNat) (gat_mem hlt)
 have hwl : (findI (winHas p) s.dat.Wins) < s.Wins.n := by omega
 refine WC.skip (hK5 _ _ (WC.sr (WL.r 3 hs4 [0] rfl ?_)))
 refine WL.val rfl rfl rfl (Run.idxK ((findI (winHas p) s.dat.Wins).toNat) Tryz.runUnderlying30 Tryz.sizeOf58 rfl rfl rfl ?_ ?_ ?_) ?_
 · exact SlF.some_ (SlF.st0 f_s.Wins.sl hs4)
 · omega
 · omega
 refine WL.val rfl rfl rfl (Run.loadA Tryz.isAgg58 Tryz.sizeOf58 rfl rfl (SlF.whole (SlF.st0 f_s.Wins.sl hs4) ?_)) ?_
 · omega
 refine WL.al hs4 Tryz.zeroValue58 rfl rfl (fun b7 _ hs8 => WL.st tbk hs8 0 rfl rfl (fun _ hs9 => WL.nil (WC.seq (fun K10 hK10 => WC.sr (WL.r 3 hs9 [0] rfl (WL.pA tbk 4 Acts.nil hs9 [0] rfl rfl rfl rfl (fun g_ => ⟨rfl, trivial⟩) (WL.nil ?_)))))))
 refine WC.cq rfl (fun h11 qh11 => ?_) (fun h11 qh11 => ?_)
 ·have hz : ((gat encWinR s.Wins.xs (findI (winHas p) s.dat.Wins).toNat).Zoom && decide ((gat encWinR s.Wins.xs (findI (winHas p) s.dat.Wins).toNat).Active = p)) = true := h11
  have hAW : areaW s.dat p (gat encWinR s.Wins.xs (findI (winHas p) s.dat.Wins).toNat).dat = (s.W, s.H) := if_pos hz
  refine WC.q1 hs9 [1, 1] rfl (fun _ hs12 => WC.ret (tkR ?_))
  clear hK10
  refine retV2 rfl (resV.tmp rfl) (resV.tmp rfl) (⟨congrArg Ending.returned ?_, hs12.nil⟩)
  rw [hAD, hAW]
 have hz : ¬ ((gat encWinR s.Wins.xs (findI (winHas p) s.dat.Wins).toNat).Zoom && decide ((gat encWinR s.Wins.xs (findI (winHas p) s.dat.Wins).toNat).Active = p)) = true := by have h9 := h11; rw [h9]; decide
 have hAW : areaW s.dat p (gat encWinR s.Wins.xs (findI (winHas p) s.dat.Wins).toNat).dat = ((placeR (gat encWinR s.Wins.xs (findI (winHas p) s.dat.Wins).toNat).Tree.xs s.W s.H p).W, (placeR (gat encWinR s.Wins.xs (findI (winHas p) s.dat.Wins).toNat).Tree.xs s.W s.H p).H) := if_neg hz
 refine WC.skip (hK10 _ _ (WC.sr (WL.r 7 hs9 [0, 1, 1] rfl ?_)))
 refine WL.cl Tryz.call52 rfl (k115_ _ _ _ _ _ _ _ _ (SlF.st0 (SlN.nth f_s.Wins (by omega)).Tree hs9) ?_) ?_
 · first | assumption | rfl | omega
 rintro _ whs13 ⟨rfl, hs13⟩
 replace hs13 := hs9.call0 hs13
 refine ⟨_, rfl, WL.r 3 hs13 [] rfl (WL.al hs13 Tryz.zeroValue71 rfl rfl (fun b14 _ hs15 => WL.st tbk hs15 0 rfl rfl (fun _ hs16 => WL.r 1 hs16 [] rfl (WL.nil (WC.q1 hs16 [0, 0] rfl (fun _ hs17 => WC.ret ?_))))))⟩
 refine retV2 rfl (resV.tmp rfl) (resV.tmp rfl) (⟨congrArg Ending.returned ?_, hs17.nil⟩)
 rw [hAD, hAW]
theorem k118_ (s : StateR) (p : Int) (w : World) (f_s : okStateR 549755813888 w s) (hT : totState s.dat ≤ 1048576) :
    Calls Tryz.prog 16 #[.agg #[i64 s.W, i64 s.H, i64 s.Limit, i64 s.Next, .slice s.Panes.A s.Panes.n s.Panes.c, .slice s.Wins.A s.Wins.n s.Wins.c, .slice s.Sess.A s.Sess.n s.Sess.c], i64 p] w fun e w' => e = .returned (.tuple #[.int .i64 (areaD s.dat p).1, .int .i64 (areaD s.dat p).2]) ∧ St w [] [] w' := by
 have nb_s_Panes := f_s.Panes_n
 have nl_s_Panes := f_s.Panes.sl.len
 have nb_s_Wins := f_s.Wins_n
 have nl_s_Wins := f_s.Wins.sl.len
 have nb_s_Sess := f_s.Sess_n
 have nl_s_Sess := f_s.Sess.sl.len
 have hsm0 : smState 1048576 s.dat := totState_sm hT
 have hWn : ∀ y, y ∈ s.Wins.xs → y.Tree.n ≤ 1048576 := fun y hy => by have h1 := (f_s.Wins.all y hy).Tree.len; have h2 : y.Tree.xs.length ≤ 1048576 := (hsm0.2.2.2.1 _ (List.mem_map_of_mem hy)).2; omega
 refine enter 47 Tryz.func16 rfl Tryz.ntmps16 rfl rfl ?_
 have hs1 := St.init w
 refine WC.sr (WL.bx hs1 rfl (fun b2 _ hs3 => WL.r 2 hs3 [] rfl (WL.nil (WC.sr (WL.r 2 hs3 [0] rfl ?_)))))
 refine WL.cl Tryz.call12 rfl (k99_ s _ _ (okStateR.st0 f_s hs3) ?_) ?_
 · first | assumption | rfl | omega
 rintro _ whs4 ⟨rfl, hs4⟩
 replace hs4 := hs3.call0 hs4
 refine ⟨_, rfl, WL.r 1 hs4 [] rfl (WL.nil (WC.seq (fun K5 hK5 => WC.r1 hs4 [] rfl ?_)))⟩
 refine WC.cq rfl (fun h6 qh6 => ?_) (fun h6 qh6 => ?_)
 ·have hfd : s.dat.Wins.find? (winHas p) = none := by rw [find_findI, if_neg (by have h9 := h6; simp at h9; omega)]
  have hAD : areaD s.dat p = (0, 0) := by unfold areaD; rw [hfd]
  refine WC.r1 hs4 [] rfl (WC.ret (tkR ?_))
  clear hK5
  refine retV2 rfl (resV.tmp rfl) (resV.tmp rfl) (⟨congrArg Ending.returned ?_, hs4.nil⟩)
  rw [hAD]
 have hk0 : 0 ≤ (findI (winHas p) s.dat.Wins) := by have h9 := h6; simp at h9; omega
 have hlt : (findI (winHas p) s.dat.Wins).toNat < s.Wins.xs.length := by have h9 := findI_lt (p := winHas p) (xs := s.dat.Wins); have h8 : s.dat.Wins.length = s.Wins.xs.length := List.length_map _; omega
 have hfd : s.dat.Wins.find? (winHas p) = some (gat encWinR s.Wins.xs (findI (winHas p) s.dat.Wins).toNat).dat := by rw [find_findI, if_pos hk0, show s.dat.Wins = s.Wins.xs.map WinR.dat from rfl, List.getElem?_map, gat_get (F := encWinR) (by exact hlt)]; rfl
 have hAD : areaD s.dat p = areaW s.dat p (gat encWinR s.Wins.xs (findI (winHas p) s.dat.Wins).toNat).dat := by unfold areaD; rw [hfd]
 have hWi := hWn (gat encWinR s.Wins.xs (findI (winHas p) s.dat.Wins).toNat) (gat_mem hlt)
 have hwl : (findI (winHas p) s.dat.Wins) < s.Wins.n := by omega
 refine WC.skip (hK5 _ _ (WC.sr (WL.r 3 hs4 [0] rfl ?_)))
 refine WL.val rfl rfl rfl (Run.idxK ((findI (winHas p) s.dat.Wins).toNat) Tryz.runUnderlying30 Tryz.sizeOf58 rfl rfl rfl ?_ ?_ ?_) ?_
 · exact SlF.some_ (SlF.st0 f_s.Wins.sl hs4)
 · omega
 · omega
 refine WL.val rfl rfl rfl (Run.loadA Tryz.isAgg58 Tryz.sizeOf58 rfl rfl (SlF.whole (SlF.st0 f_s.Wins.sl hs4) ?_)) ?_
 · omega
 refine WL.al hs4 Tryz.zeroValue58 rfl rfl (fun b7 _ hs8 => WL.st tbk hs8 0 rfl rfl (fun _ hs9 => WL.nil (WC.seq (fun K10 hK10 => WC.sr (WL.r 3 hs9 [0] rfl (WL.pA tbk 4 Acts.nil hs9 [0] rfl rfl rfl rfl (fun g_ => ⟨rfl, trivial⟩) (WL.nil ?_)))))))
 refine WC.cq rfl (fun h11 qh11 => ?_) (fun h11 qh11 => ?_)
 ·have hz : ((gat encWinR s.Wins.xs (findI (winHas p) s.dat.Wins).toNat).Zoom && decide ((gat encWinR s.Wins.xs (findI (winHas p) s.dat.Wins).toNat).Active = p)) = true := h11
  have hAW : areaW s.dat p (gat encWinR s.Wins.xs (findI (winHas p) s.dat.Wins).toNat).dat = (s.W, s.H) := if_pos hz
  refine WC.q1 hs9 [1, 1] rfl (fun _ hs12 => WC.ret (tkR ?_))
  clear hK10
  refine retV2 rfl (resV.tmp rfl) (resV.tmp rfl) (⟨congrArg Ending.returned ?_, hs12.nil⟩)
  rw [hAD, hAW]
 have hz : ¬ ((gat encWinR s.Wins.xs (findI (winHas p) s.dat.Wins).toNat).Zoom && decide ((gat encWinR s.Wins.xs (findI (winHas p) s.dat.Wins).toNat).Active = p)) = true := by have h9 := h11; rw [h9]; decide
 have hAW : areaW s.dat p (gat encWinR s.Wins.xs (findI (winHas p) s.dat.Wins).toNat).dat = ((placeR (gat encWinR s.Wins.xs (findI (winHas p) s.dat.Wins).toNat).Tree.xs s.W s.H p).W, (placeR (gat encWinR s.Wins.xs (findI (winHas p) s.dat.Wins).toNat).Tree.xs s.W s.H p).H) := if_neg hz
 refine WC.skip (hK10 _ _ (WC.sr (WL.r 7 hs9 [0, 1, 1] rfl ?_)))
 refine WL.cl Tryz.call51 rfl (k116_ _ _ _ _ _ _ _ _ (SlF.st0 (SlN.nth f_s.Wins (by omega)).Tree hs9) ?_) ?_
 · first | assumption | rfl | omega
 rintro _ whs13 ⟨rfl, hs13⟩
 replace hs13 := hs9.call0 hs13
 refine ⟨_, rfl, WL.r 3 hs13 [] rfl (WL.al hs13 Tryz.zeroValue71 rfl rfl (fun b14 _ hs15 => WL.st tbk hs15 0 rfl rfl (fun _ hs16 => WL.r 1 hs16 [] rfl (WL.nil (WC.q1 hs16 [0, 0] rfl (fun _ hs17 => WC.ret ?_))))))⟩
 refine retV2 rfl (resV.tmp rfl) (resV.tmp rfl) (⟨congrArg Ending.returned ?_, hs17.nil⟩)
 rw [hAD, hAW]
theorem k119_ (s : StateR) (p : Int) (w : World) (f_s : okStateR 549755813888 w s) :
    Calls Tryz.prog 116 #[.agg #[i64 s.W, i64 s.H, i64 s.Limit, i64 s.Next, .slice s.Panes.A s.Panes.n s.Panes.c, .slice s.Wins.A s.Wins.n s.Wins.c, .slice s.Sess.A s.Sess.n s.Sess.c], i64 p] w fun e w' => e = .returned (.int .i64 (findI (fun q : PaneD => decide (q.Id = p)) s.dat.Panes)) ∧ St w [] [] w' := by
 have nb_s_Panes := f_s.Panes_n
 have nl_s_Panes := f_s.Panes.sl.len
 have nb_s_Wins := f_s.Wins_n
 have nl_s_Wins := f_s.Wins.sl.len
 have nb_s_Sess := f_s.Sess_n
 have nl_s_Sess := f_s.Sess.sl.len
 refine enter 21 Tryz.func116 rfl Tryz.ntmps116 rfl rfl ?_
 have hs1 := St.init w
 refine WC.sr (WL.bx hs1 rfl (fun b2 _ hs3 => WL.r 1 hs3 [] rfl (WL.nil (WC.seq (fun K4 hK4 => WC.r1 hs3 [0] rfl (WC.block ?_))))))
 refine WC.lS [1, 8, 9] rfl hs3 (fun k_ f w' => ∃ (i : Nat), k_ = s.Panes.n - i ∧ (i ≤ s.Panes.n) ∧ (∀ j, j < i → (fun q : PaneR => decide (q.Id = p)) (gat encPaneR s.Panes.xs j) = false) ∧ Sub [(10, .int .i64 i)] f) ((fun (i : Nat) => s.Panes.n - i) (0)) ?_ ?_
 ·refine ⟨0, rfl, ?_, ?_, ⟨rfl, trivial⟩⟩
  · exact Nat.zero_le _
  · exact fun j hj => absurd hj (by omega)
 clear hs3
 rintro _ f w ⟨i, rfl, p0, p1, hG⟩ hF hs5
 refine WC.sub _ (hG.app hF) ?_
 clear hG hF
 refine WC.r1 hs5 [] rfl (WC.seq (fun K6 hK6 => ?_))
 refine WC.cq rfl (fun h7 qh7 => ?_) (fun h7 qh7 => ?_)
 ·refine WC.skip (hK6 _ _ (WC.seq (fun K8 hK8 => WC.block (WC.sr (WL.r 1 hs5 [] rfl ?_)))))
  refine WL.val rfl rfl rfl (Run.idxN Tryz.runUnderlying29 Tryz.sizeOf93 rfl rfl rfl ?_ ?_ ?_) ?_
  · exact SlF.some_ (SlF.st0 f_s.Panes.sl hs5)
  · omega
  · omega
  refine WL.val rfl rfl rfl (Run.loadA Tryz.isAgg93 Tryz.sizeOf93 rfl rfl (SlF.whole (SlF.st0 f_s.Panes.sl hs5) ?_)) ?_
  · omega
  refine WL.al hs5 Tryz.zeroValue93 rfl rfl (fun b9 _ hs10 => WL.r 1 hs10 [] rfl (WL.st tbk hs10 0 rfl rfl (fun _ hs11 => WL.nil (WC.r1 hs11 [0] rfl ?_))))
  refine WC.cq rfl (fun h12 qh12 => ?_) (fun h12 qh12 => ?_)
  ·refine WC.r1 hs11 [] rfl (WC.ret (ibR (tkR (tkR (ibR (tkR ?_))))))
   clear hK8 hK4
   refine rtv rfl rfl hs11 ?_
   rw [show s.dat.Panes = s.Panes.xs.map PaneR.dat from rfl, findI_map]; exact congrArg (Value.int _) (findI_some (F := encPaneR) (p := (fun q : PaneR => decide (q.Id = p))) (xs := s.Panes.xs) (by omega) p1 h12).symm
  refine WC.skip (hK8 _ _ (WC.region (WL.r 2 hs11 [] rfl (WL.nil (tkN ?_)))))
  refine ⟨sbF rfl, (hs11.drop (by repeat (first | exact List.Sublist.refl _ | exact List.sublist_append_left _ _ | exact List.Sublist.trans (List.sublist_append_left _ _) (List.sublist_append_left _ _) | apply List.Sublist.cons | refine List.Sublist.trans ?_ (sR _)))), _, ?_, i + 1, rfl, ?_, ?_, ⟨rfl, trivial⟩⟩
  · omega
  · omega
  · intro j hj; rcases Nat.lt_or_ge j i with h_ | h_
    · exact p1 j h_
    · obtain rfl : j = i := by omega
      exact h12
 refine WC.exit (hK4 _ _ (WC.r1 hs5 [] rfl (WC.ret (rtv rfl rfl hs5 ?_))))
 rw [show s.dat.Panes = s.Panes.xs.map PaneR.dat from rfl, findI_map]; exact congrArg (Value.int _) (findI_none (F := encPaneR) (p := (fun q : PaneR => decide (q.Id = p))) (xs := s.Panes.xs) (fun j hj => p1 j (by omega))).symm
theorem k120_ (q : WinR) (b_p : Nat) (p : Int) (w : World) (f_q : okWinR 549755813888 w q) (f_p : SlF encI w (some ⟨b_p, 0, none⟩) 1 [p]) :
    Calls Tryz.prog 177 #[.agg #[i64 q.Id, .string q.Name, .slice q.Tree.A q.Tree.n q.Tree.c, i64 q.Active, .bool q.Zoom], .pointer (some ⟨b_p, 0, none⟩)] w fun e w' => e = .returned (.bool (decide (q.Id = p))) ∧ St w [] [] w' := by
 have nz_q_Name := f_q.Name_z
 have nb_q_Tree := f_q.Tree_n
 have nl_q_Tree := f_q.Tree.len
 refine enter 8 Tryz.func177 rfl Tryz.ntmps177 rfl rfl ?_
 have hs1 := St.init w
 refine WC.sr (WL.bx hs1 rfl (fun b2 _ hs3 => WL.r 1 hs3 [] rfl (WL.nil (WC.sr (WL.r 2 hs3 [0] rfl (WL.val rfl rfl rfl (Run.load Tryz.isAgg3 rfl rfl (SlF.var (SlF.st0 f_p hs3) rfl)) (WL.r 2 hs3 [] rfl ?_)))))))
 refine WL.nil (WC.ret (rtv rfl rfl hs3 ?_))
 rfl
theorem k121_ (A_s : Option Addr) (n_s c_s : Nat) (s : List WinR) (b_p : Nat) (p : Int) (w : World) (f_s : SlN encWinR (okWinR 549755813888) w A_s n_s s) (f_p : SlF encI w (some ⟨b_p, 0, none⟩) 1 [p]) (hn : n_s ≤ 549755813888) :
    Calls Tryz.prog 44 #[.slice A_s n_s c_s, .func (.func 177) #[] #[.pointer (some ⟨b_p, 0, none⟩)]] w fun e w' => e = .returned (.int .i64 (findI (fun q => decide (q.Id = p)) s)) ∧ St w [] [] w' := by
 refine enter 19 Tryz.func44 rfl Tryz.ntmps44 rfl rfl ?_
 have hs1 := St.init w
 refine WC.r1 hs1 [] rfl (WC.seq (fun K2 hK2 => WC.r1 hs1 [] rfl (WC.block ?_)))
 refine WC.lS [0, 1, 7] rfl hs1 (fun k_ f w' => ∃ (i : Nat), k_ = n_s - i ∧ (i ≤ n_s) ∧ (∀ j, j < i → (fun q => decide (q.Id = p)) (gat encWinR s j) = false) ∧ Sub [(8, .int .i64 i)] f) ((fun (i : Nat) => n_s - i) (0)) ?_ ?_
 ·refine ⟨0, rfl, ?_, ?_, ⟨rfl, trivial⟩⟩
  · exact Nat.zero_le _
  · exact fun j hj => absurd hj (by omega)
 clear hs1
 rintro _ f w ⟨i, rfl, p0, p1, hG⟩ hF hs3
 refine WC.sub _ (hG.app hF) ?_
 clear hG hF
 refine WC.r1 hs3 [] rfl (WC.seq (fun K4 hK4 => ?_))
 refine WC.cond rfl (fun h5 => ?_) (fun h5 => ?_)
 ·have qh5 := h5
  try simp only [decide_eq_true_eq, decide_eq_false_iff_not] at qh5
  refine WC.skip (hK4 _ _ (WC.seq (fun K6 hK6 => WC.block (WC.r1 hs3 [] rfl (WC.sr (WL.r 3 hs3 [] rfl ?_))))))
  refine WL.val rfl rfl rfl (Run.idxN Tryz.runUnderlying30 Tryz.sizeOf58 rfl rfl rfl ?_ ?_ ?_) ?_
  · exact SlF.some_ (SlF.st0 f_s.sl hs3)
  · omega
  · omega
  refine WL.val rfl rfl rfl (Run.loadA Tryz.isAgg58 Tryz.sizeOf58 rfl rfl (SlF.whole (SlF.st0 f_s.sl hs3) ?_)) ?_
  · omega
  refine WL.call rfl rfl rfl (Run.callC Tryz.call177 rfl rfl rfl) (k120_ (gat encWinR s i) _ _ _ (okWinR.st0 (SlN.nth f_s (by omega)) hs3) (SlF.st0 f_p hs3)) ?_
  rintro _ whs7 ⟨rfl, hs7⟩
  replace hs7 := hs3.call0 hs7
  refine ⟨_, rfl, WL.nil (WC.cond rfl (fun h8 => ?_) (fun h8 => ?_))⟩
  ·have qh8 := h8
   try simp only [decide_eq_true_eq, decide_eq_false_iff_not] at qh8
   refine WC.r1 hs7 [] rfl (WC.ret (ibR (tkR (tkR (ibR (tkR ?_))))))
   clear hK6 hK2
   refine rtv rfl rfl hs7 ?_
   rw [findI_some (F := encWinR) (by rw [f_s.len]; omega) p1 h8]
  have qh8 := h8
  try simp only [decide_eq_true_eq, decide_eq_false_iff_not] at qh8
  refine WC.skip (hK6 _ _ (WC.region (WL.r 2 hs7 [] rfl (WL.nil (tkN ?_)))))
  refine ⟨sbF rfl, hs7, _, ?_, i + 1, rfl, ?_, ?_, ⟨rfl, trivial⟩⟩
  · omega
  · omega
  · intro j hj; rcases Nat.lt_or_ge j i with h_ | h_
    · exact p1 j h_
    · obtain rfl : j = i := by omega
      exact h8
 have qh5 := h5
 try simp only [decide_eq_true_eq, decide_eq_false_iff_not] at qh5
 refine WC.exit (hK2 _ _ (WC.r1 hs3 [] rfl (WC.ret (rtv rfl rfl hs3 ?_))))
 rw [findI_none (F := encWinR) (fun j hj => p1 j (by rw [f_s.len] at hj; omega))]
theorem k122_ (s : StateR) (p : Int) (w : World) (f_s : okStateR 549755813888 w s) :
    Calls Tryz.prog 122 #[.agg #[i64 s.W, i64 s.H, i64 s.Limit, i64 s.Next, .slice s.Panes.A s.Panes.n s.Panes.c, .slice s.Wins.A s.Wins.n s.Wins.c, .slice s.Sess.A s.Sess.n s.Sess.c], i64 p] w fun e w' => e = .returned (.int .i64 (findI (fun q : WinD => decide (q.Id = p)) s.dat.Wins)) ∧ St w [] [] w' := by
 have nb_s_Panes := f_s.Panes_n
 have nl_s_Panes := f_s.Panes.sl.len
 have nb_s_Wins := f_s.Wins_n
 have nl_s_Wins := f_s.Wins.sl.len
 have nb_s_Sess := f_s.Sess_n
 have nl_s_Sess := f_s.Sess.sl.len
 refine enter 9 Tryz.func122 rfl Tryz.ntmps122 rfl rfl ?_
 have hs1 := St.init w
 refine WC.sr (WL.bx hs1 rfl (fun b2 _ hs3 => WL.bx hs3 rfl (fun b4 _ hs5 => WL.r 1 hs5 [] rfl (WL.nil (WC.sr (WL.r 2 hs5 [1] rfl (WL.val rfl rfl rfl (Run.makeFunc rfl rfl) ?_)))))))
 refine WL.cl Tryz.call44 rfl (k121_ _ _ _ _ _ _ _ (SlN.st0 okWinR.st0 f_s.Wins hs5) (SlF.own1 (hs5.own _ (nthL_mem (i := 0) rfl)).1) ?_) ?_
 · first | assumption | rfl | omega
 rintro _ whs6 ⟨rfl, hs6⟩
 replace hs6 := hs5.call0 hs6
 refine ⟨_, rfl, WL.r 1 hs6 [] rfl (WL.nil (WC.ret (rtv rfl rfl hs6 ?_)))⟩
 rw [show s.dat.Wins = s.Wins.xs.map WinR.dat from rfl, findI_map]; rfl
theorem k123_ (s : StateR) (p : Int) (w : World) (f_s : okStateR 549755813888 w s) :
    Calls Tryz.prog 119 #[.agg #[i64 s.W, i64 s.H, i64 s.Limit, i64 s.Next, .slice s.Panes.A s.Panes.n s.Panes.c, .slice s.Wins.A s.Wins.n s.Wins.c, .slice s.Sess.A s.Sess.n s.Sess.c], i64 p] w fun e w' => e = .returned (.int .i64 (findI (fun q : WinD => decide (q.Id = p)) s.dat.Wins)) ∧ St w [] [] w' := by
 have nb_s_Panes := f_s.Panes_n
 have nl_s_Panes := f_s.Panes.sl.len
 have nb_s_Wins := f_s.Wins_n
 have nl_s_Wins := f_s.Wins.sl.len
 have nb_s_Sess := f_s.Sess_n
 have nl_s_Sess := f_s.Sess.sl.len
 refine enter 21 Tryz.func119 rfl Tryz.ntmps119 rfl rfl ?_
 have hs1 := St.init w
 refine WC.sr (WL.bx hs1 rfl (fun b2 _ hs3 => WL.r 1 hs3 [] rfl (WL.nil (WC.seq (fun K4 hK4 => WC.r1 hs3 [0] rfl (WC.block ?_))))))
 refine WC.lS [1, 8, 9] rfl hs3 (fun k_ f w' => ∃ (i : Nat), k_ = s.Wins.n - i ∧ (i ≤ s.Wins.n) ∧ (∀ j, j < i → (fun q : WinR => decide (q.Id = p)) (gat encWinR s.Wins.xs j) = false) ∧ Sub [(10, .int .i64 i)] f) ((fun (i : Nat) => s.Wins.n - i) (0)) ?_ ?_
 ·refine ⟨0, rfl, ?_, ?_, ⟨rfl, trivial⟩⟩
  · exact Nat.zero_le _
  · exact fun j hj => absurd hj (by omega)
 clear hs3
 rintro _ f w ⟨i, rfl, p0, p1, hG⟩ hF hs5
 refine WC.sub _ (hG.app hF) ?_
 clear hG hF
 refine WC.r1 hs5 [] rfl (WC.seq (fun K6 hK6 => ?_))
 refine WC.cq rfl (fun h7 qh7 => ?_) (fun h7 qh7 => ?_)
 ·refine WC.skip (hK6 _ _ (WC.seq (fun K8 hK8 => WC.block (WC.sr (WL.r 1 hs5 [] rfl ?_)))))
  refine WL.val rfl rfl rfl (Run.idxN Tryz.runUnderlying30 Tryz.sizeOf58 rfl rfl rfl ?_ ?_ ?_) ?_
  · exact SlF.some_ (SlF.st0 f_s.Wins.sl hs5)
  · omega
  · omega
  refine WL.val rfl rfl rfl (Run.loadA Tryz.isAgg58 Tryz.sizeOf58 rfl rfl (SlF.whole (SlF.st0 f_s.Wins.sl hs5) ?_)) ?_
  · omega
  refine WL.al hs5 Tryz.zeroValue58 rfl rfl (fun b9 _ hs10 => WL.r 1 hs10 [] rfl (WL.st tbk hs10 0 rfl rfl (fun _ hs11 => WL.nil (WC.r1 hs11 [0] rfl ?_))))
  refine WC.cq rfl (fun h12 qh12 => ?_) (fun h12 qh12 => ?_)
  ·refine WC.r1 hs11 [] rfl (WC.ret (ibR (tkR (tkR (ibR (tkR ?_))))))
   clear hK8 hK4
   refine rtv rfl rfl hs11 ?_
   rw [show s.dat.Wins = s.Wins.xs.map WinR.dat from rfl, findI_map]; exact congrArg (Value.int _) (findI_some (F := encWinR) (p := (fun q : WinR => decide (q.Id = p))) (xs := s.Wins.xs) (by omega) p1 h12).symm
  refine WC.skip (hK8 _ _ (WC.region (WL.r 2 hs11 [] rfl (WL.nil (tkN ?_)))))
  refine ⟨sbF rfl, (hs11.drop (by repeat (first | exact List.Sublist.refl _ | exact List.sublist_append_left _ _ | exact List.Sublist.trans (List.sublist_append_left _ _) (List.sublist_append_left _ _) | apply List.Sublist.cons | refine List.Sublist.trans ?_ (sR _)))), _, ?_, i + 1, rfl, ?_, ?_, ⟨rfl, trivial⟩⟩
  · omega
  · omega
  · intro j hj; rcases Nat.lt_or_ge j i with h_ | h_
    · exact p1 j h_
    · obtain rfl : j = i := by omega
      exact h12
 refine WC.exit (hK4 _ _ (WC.r1 hs5 [] rfl (WC.ret (rtv rfl rfl hs5 ?_))))
 rw [show s.dat.Wins = s.Wins.xs.map WinR.dat from rfl, findI_map]; exact congrArg (Value.int _) (findI_none (F := encWinR) (p := (fun q : WinR => decide (q.Id = p))) (xs := s.Wins.xs) (fun j hj => p1 j (by omega))).symm
theorem k124_ (q : SessR) (b_p : Nat) (p : ByteArray) (w : World) (f_q : okSessR 549755813888 w q) (f_p : SlF encS w (some ⟨b_p, 0, none⟩) 1 [p]) :
    Calls Tryz.prog 181 #[.agg #[.string q.Name, .slice q.Wins.A q.Wins.n q.Wins.c, i64 q.Active], .pointer (some ⟨b_p, 0, none⟩)] w fun e w' => e = .returned (.bool (decide (q.Name = p))) ∧ St w [] [] w' := by
 have nz_q_Name := f_q.Name_z
 have nb_q_Wins := f_q.Wins_n
 have nl_q_Wins := f_q.Wins.len
 refine enter 8 Tryz.func181 rfl Tryz.ntmps181 rfl rfl ?_
 have hs1 := St.init w
 refine WC.sr (WL.bx hs1 rfl (fun b2 _ hs3 => WL.r 1 hs3 [] rfl (WL.nil (WC.sr (WL.r 2 hs3 [0] rfl (WL.val rfl rfl rfl (Run.load Tryz.isAgg9 rfl rfl (SlF.var (SlF.st0 f_p hs3) rfl)) (WL.r 2 hs3 [] rfl ?_)))))))
 refine WL.nil (WC.ret (rtv rfl rfl hs3 ?_))
 rfl
theorem k125_ (A_s : Option Addr) (n_s c_s : Nat) (s : List SessR) (b_p : Nat) (p : ByteArray) (w : World) (f_s : SlN encSessR (okSessR 549755813888) w A_s n_s s) (f_p : SlF encS w (some ⟨b_p, 0, none⟩) 1 [p]) (hn : n_s ≤ 549755813888) :
    Calls Tryz.prog 180 #[.slice A_s n_s c_s, .func (.func 181) #[] #[.pointer (some ⟨b_p, 0, none⟩)]] w fun e w' => e = .returned (.int .i64 (findI (fun q => decide (q.Name = p)) s)) ∧ St w [] [] w' := by
 refine enter 19 Tryz.func180 rfl Tryz.ntmps180 rfl rfl ?_
 have hs1 := St.init w
 refine WC.r1 hs1 [] rfl (WC.seq (fun K2 hK2 => WC.r1 hs1 [] rfl (WC.block ?_)))
 refine WC.lS [0, 1, 7] rfl hs1 (fun k_ f w' => ∃ (i : Nat), k_ = n_s - i ∧ (i ≤ n_s) ∧ (∀ j, j < i → (fun q => decide (q.Name = p)) (gat encSessR s j) = false) ∧ Sub [(8, .int .i64 i)] f) ((fun (i : Nat) => n_s - i) (0)) ?_ ?_
 ·refine ⟨0, rfl, ?_, ?_, ⟨rfl, trivial⟩⟩
  · exact Nat.zero_le _
  · exact fun j hj => absurd hj (by omega)
 clear hs1
 rintro _ f w ⟨i, rfl, p0, p1, hG⟩ hF hs3
 refine WC.sub _ (hG.app hF) ?_
 clear hG hF
 refine WC.r1 hs3 [] rfl (WC.seq (fun K4 hK4 => ?_))
 refine WC.cond rfl (fun h5 => ?_) (fun h5 => ?_)
 ·have qh5 := h5
  try simp only [decide_eq_true_eq, decide_eq_false_iff_not] at qh5
  refine WC.skip (hK4 _ _ (WC.seq (fun K6 hK6 => WC.block (WC.r1 hs3 [] rfl (WC.sr (WL.r 3 hs3 [] rfl ?_))))))
  refine WL.val rfl rfl rfl (Run.idxN Tryz.runUnderlying31 Tryz.sizeOf106 rfl rfl rfl ?_ ?_ ?_) ?_
  · exact SlF.some_ (SlF.st0 f_s.sl hs3)
  · omega
  · omega
  refine WL.val rfl rfl rfl (Run.loadA Tryz.isAgg106 Tryz.sizeOf106 rfl rfl (SlF.whole (SlF.st0 f_s.sl hs3) ?_)) ?_
  · omega
  refine WL.call rfl rfl rfl (Run.callC Tryz.call181 rfl rfl rfl) (k124_ (gat encSessR s i) _ _ _ (okSessR.st0 (SlN.nth f_s (by omega)) hs3) (SlF.st0 f_p hs3)) ?_
  rintro _ whs7 ⟨rfl, hs7⟩
  replace hs7 := hs3.call0 hs7
  refine ⟨_, rfl, WL.nil (WC.cond rfl (fun h8 => ?_) (fun h8 => ?_))⟩
  ·have qh8 := h8
   try simp only [decide_eq_true_eq, decide_eq_false_iff_not] at qh8
   refine WC.r1 hs7 [] rfl (WC.ret (ibR (tkR (tkR (ibR (tkR ?_))))))
   clear hK6 hK2
   refine rtv rfl rfl hs7 ?_
   rw [findI_some (F := encSessR) (by rw [f_s.len]; omega) p1 h8]
  have qh8 := h8
  try simp only [decide_eq_true_eq, decide_eq_false_iff_not] at qh8
  refine WC.skip (hK6 _ _ (WC.region (WL.r 2 hs7 [] rfl (WL.nil (tkN ?_)))))
  refine ⟨sbF rfl, hs7, _, ?_, i + 1, rfl, ?_, ?_, ⟨rfl, trivial⟩⟩
  · omega
  · omega
  · intro j hj; rcases Nat.lt_or_ge j i with h_ | h_
    · exact p1 j h_
    · obtain rfl : j = i := by omega
      exact h8
 have qh5 := h5
 try simp only [decide_eq_true_eq, decide_eq_false_iff_not] at qh5
 refine WC.exit (hK2 _ _ (WC.r1 hs3 [] rfl (WC.ret (rtv rfl rfl hs3 ?_))))
 rw [findI_none (F := encSessR) (fun j hj => p1 j (by rw [f_s.len] at hj; omega))]
theorem k126_ (s : StateR) (p : ByteArray) (w : World) (f_s : okStateR 549755813888 w s) :
    Calls Tryz.prog 125 #[.agg #[i64 s.W, i64 s.H, i64 s.Limit, i64 s.Next, .slice s.Panes.A s.Panes.n s.Panes.c, .slice s.Wins.A s.Wins.n s.Wins.c, .slice s.Sess.A s.Sess.n s.Sess.c], .string p] w fun e w' => e = .returned (.int .i64 (findI (fun q : SessD => decide (q.Name = p)) s.dat.Sess)) ∧ St w [] [] w' := by
 have nb_s_Panes := f_s.Panes_n
 have nl_s_Panes := f_s.Panes.sl.len
 have nb_s_Wins := f_s.Wins_n
 have nl_s_Wins := f_s.Wins.sl.len
 have nb_s_Sess := f_s.Sess_n
 have nl_s_Sess := f_s.Sess.sl.len
 refine enter 9 Tryz.func125 rfl Tryz.ntmps125 rfl rfl ?_
 have hs1 := St.init w
 refine WC.sr (WL.bx hs1 rfl (fun b2 _ hs3 => WL.bx hs3 rfl (fun b4 _ hs5 => WL.r 1 hs5 [] rfl (WL.nil (WC.sr (WL.r 2 hs5 [1] rfl (WL.val rfl rfl rfl (Run.makeFunc rfl rfl) ?_)))))))
 refine WL.cl Tryz.call180 rfl (k125_ _ _ _ _ _ _ _ (SlN.st0 okSessR.st0 f_s.Sess hs5) (SlF.own1 (hs5.own _ (nthL_mem (i := 0) rfl)).1) ?_) ?_
 · first | assumption | rfl | omega
 rintro _ whs6 ⟨rfl, hs6⟩
 replace hs6 := hs5.call0 hs6
 refine ⟨_, rfl, WL.r 1 hs6 [] rfl (WL.nil (WC.ret (rtv rfl rfl hs6 ?_)))⟩
 rw [show s.dat.Sess = s.Sess.xs.map SessR.dat from rfl, findI_map]; rfl
theorem k127_ (s : StateR) (p : ByteArray) (w : World) (f_s : okStateR 549755813888 w s) :
    Calls Tryz.prog 118 #[.agg #[i64 s.W, i64 s.H, i64 s.Limit, i64 s.Next, .slice s.Panes.A s.Panes.n s.Panes.c, .slice s.Wins.A s.Wins.n s.Wins.c, .slice s.Sess.A s.Sess.n s.Sess.c], .string p] w fun e w' => e = .returned (.int .i64 (findI (fun q : SessD => decide (q.Name = p)) s.dat.Sess)) ∧ St w [] [] w' := by
 have nb_s_Panes := f_s.Panes_n
 have nl_s_Panes := f_s.Panes.sl.len
 have nb_s_Wins := f_s.Wins_n
 have nl_s_Wins := f_s.Wins.sl.len
 have nb_s_Sess := f_s.Sess_n
 have nl_s_Sess := f_s.Sess.sl.len
 refine enter 21 Tryz.func118 rfl Tryz.ntmps118 rfl rfl ?_
 have hs1 := St.init w
 refine WC.sr (WL.bx hs1 rfl (fun b2 _ hs3 => WL.r 1 hs3 [] rfl (WL.nil (WC.seq (fun K4 hK4 => WC.r1 hs3 [0] rfl (WC.block ?_))))))
 refine WC.lS [1, 8, 9] rfl hs3 (fun k_ f w' => ∃ (i : Nat), k_ = s.Sess.n - i ∧ (i ≤ s.Sess.n) ∧ (∀ j, j < i → (fun q : SessR => decide (q.Name = p)) (gat encSessR s.Sess.xs j) = false) ∧ Sub [(10, .int .i64 i)] f) ((fun (i : Nat) => s.Sess.n - i) (0)) ?_ ?_
 ·refine ⟨0, rfl, ?_, ?_, ⟨rfl, trivial⟩⟩
  · exact Nat.zero_le _
  · exact fun j hj => absurd hj (by omega)
 clear hs3
 rintro _ f w ⟨i, rfl, p0, p1, hG⟩ hF hs5
 refine WC.sub _ (hG.app hF) ?_
 clear hG hF
 refine WC.r1 hs5 [] rfl (WC.seq (fun K6 hK6 => ?_))
 refine WC.cq rfl (fun h7 qh7 => ?_) (fun h7 qh7 => ?_)
 ·refine WC.skip (hK6 _ _ (WC.seq (fun K8 hK8 => WC.block (WC.sr (WL.r 1 hs5 [] rfl ?_)))))
  refine WL.val rfl rfl rfl (Run.idxN Tryz.runUnderlying31 Tryz.sizeOf106 rfl rfl rfl ?_ ?_ ?_) ?_
  · exact SlF.some_ (SlF.st0 f_s.Sess.sl hs5)
  · omega
  · omega
  refine WL.val rfl rfl rfl (Run.loadA Tryz.isAgg106 Tryz.sizeOf106 rfl rfl (SlF.whole (SlF.st0 f_s.Sess.sl hs5) ?_)) ?_
  · omega
  refine WL.al hs5 Tryz.zeroValue106 rfl rfl (fun b9 _ hs10 => WL.r 1 hs10 [] rfl (WL.st tbk hs10 0 rfl rfl (fun _ hs11 => WL.nil (WC.r1 hs11 [0] rfl ?_))))
  refine WC.cq rfl (fun h12 qh12 => ?_) (fun h12 qh12 => ?_)
  ·refine WC.r1 hs11 [] rfl (WC.ret (ibR (tkR (tkR (ibR (tkR ?_))))))
   clear hK8 hK4
   refine rtv rfl rfl hs11 ?_
   rw [show s.dat.Sess = s.Sess.xs.map SessR.dat from rfl, findI_map]; exact congrArg (Value.int _) (findI_some (F := encSessR) (p := (fun q : SessR => decide (q.Name = p))) (xs := s.Sess.xs) (by omega) p1 h12).symm
  refine WC.skip (hK8 _ _ (WC.region (WL.r 2 hs11 [] rfl (WL.nil (tkN ?_)))))
  refine ⟨sbF rfl, (hs11.drop (by repeat (first | exact List.Sublist.refl _ | exact List.sublist_append_left _ _ | exact List.Sublist.trans (List.sublist_append_left _ _) (List.sublist_append_left _ _) | apply List.Sublist.cons | refine List.Sublist.trans ?_ (sR _)))), _, ?_, i + 1, rfl, ?_, ?_, ⟨rfl, trivial⟩⟩
  · omega
  · omega
  · intro j hj; rcases Nat.lt_or_ge j i with h_ | h_
    · exact p1 j h_
    · obtain rfl : j = i := by omega
      exact h12
 refine WC.exit (hK4 _ _ (WC.r1 hs5 [] rfl (WC.ret (rtv rfl rfl hs5 ?_))))
 rw [show s.dat.Sess = s.Sess.xs.map SessR.dat from rfl, findI_map]; exact congrArg (Value.int _) (findI_none (F := encSessR) (p := (fun q : SessR => decide (q.Name = p))) (xs := s.Sess.xs) (fun j hj => p1 j (by omega))).symm
theorem k128_ (g : GridR) (w : World) (f_g : okGridR 549755813888 w g) :
    Calls Tryz.prog 219 #[.agg #[i64 g.W, i64 g.H, .slice g.Cells.A g.Cells.n g.Cells.c]] w fun e w' => e = .returned (.bool (gridOk g.dat)) ∧ St w [] [] w' := by
 have nb_g_Cells := f_g.Cells_n
 have nl_g_Cells := f_g.Cells.len
 refine enter 53 Tryz.func219 rfl Tryz.ntmps219 rfl rfl ?_
 have hs1 := St.init w
 refine WC.sr (WL.bx hs1 rfl (fun b2 _ hs3 => WL.r 1 hs3 [] rfl (WL.nil (WC.seq (fun K4 hK4 => WC.sr (WL.r 4 hs3 [0] rfl (WL.pO tbk 3 Acts.nil hs3 [0] rfl rfl rfl rfl (fun g_ => ⟨rfl, trivial⟩) ?_)))))))
 refine WL.r 1 hs3 [] rfl (WL.pO tbk 3 Acts.nil hs3 [0] rfl rfl rfl rfl (fun g_ => ⟨rfl, trivial⟩) (WL.r 1 hs3 [] rfl (WL.pO tbk 3 Acts.nil hs3 [0] rfl rfl rfl rfl (fun g_ => ⟨rfl, trivial⟩) (WL.r 1 hs3 [] rfl ?_))))
 apply WL.gO 6 Acts.nil hs3 rfl
 ·intro g5 J6
  have qg5 := g5
  try simp only [bf, within_iff, within_not] at qg5
  refine WL.runA tbk 6 (Acts.nil.cons (j := 18) rfl g5) hs3 [0, 0] rfl ⟨?_, rfl, rfl, trivial⟩ ?_
  · (have h9 := mul_size (w := g.W) (h := g.H) (by omega) (by omega); constructor <;> omega)
  exact WL.eO 6 Acts.nil J6 hs3 g5 rfl rfl
 intro _ hs7
 refine WL.r 1 hs7 [] rfl ?_
 apply WL.gO 9 Acts.nil hs7 rfl
 ·intro g8 J9
  have qg8 := g8
  try simp only [bf, within_iff, within_not] at qg8
  refine WL.runA tbk 9 (Acts.nil.cons (j := 26) rfl g8) hs7 [0, 0, 0] rfl ⟨?_, rfl, rfl, rfl, trivial⟩ ?_
  · (have h9 := mul_size (w := g.W) (h := g.H) (by omega) (by omega); constructor <;> omega)
  exact WL.eO 9 Acts.nil J9 hs7 g8 rfl rfl
 intro _ hs10
 refine WL.nil (WC.cq rfl (fun h11 qh11 => ?_) (fun h11 qh11 => ?_))
 ·have hg : gridOk g.dat = false := by rw [← Bool.not_eq_true]; intro h8; have hb : (1 ≤ g.W ∧ g.W ≤ 120) ∧ (1 ≤ g.H ∧ g.H ≤ 120) ∧ 1 ≤ g.W * g.H ∧ g.W * g.H ≤ 4000 := gridOk_bnd h8; unfold gridOk at h8; rw [Bool.and_eq_true, Bool.and_eq_true, decide_eq_true_eq] at h8; have h7 : (g.Cells.xs.length : Int) = g.W * g.H := h8.1.2; have h9 := h11; simp at h9; omega
  refine WC.r1 hs10 [] rfl (WC.ret (tkR ?_))
  clear hK4
  refine rtv rfl rfl hs10 ?_
  rw [hg]
 have hs : isSize g.W g.H = true ∧ (g.Cells.n : Int) = g.W * g.H := by rw [isSize_iff]; have h9 := h11; simp at h9; omega
 refine WC.skip (hK4 _ _ (WC.seq (fun K12 hK12 => WC.r1 hs10 [0] rfl (WC.block ?_))))
 refine WC.lS [41, 43, 44] rfl hs10 (fun k_ f w' => ∃ (i : Nat), k_ = g.Cells.n - i ∧ (i ≤ g.Cells.n) ∧ (∀ j, j < i → cellOk (gat encCell g.Cells.xs j) = true) ∧ Sub [(45, .int .i64 i)] f) ((fun (i : Nat) => g.Cells.n - i) (0)) ?_ ?_
 ·refine ⟨0, rfl, ?_, ?_, ⟨rfl, trivial⟩⟩
  · exact Nat.zero_le _
  · exact fun j hj => absurd hj (by omega)
 clear hs10
 rintro _ f w ⟨i, rfl, p0, p1, hG⟩ hF hs13
 refine WC.sub _ (hG.app hF) ?_
 clear hG hF
 refine WC.r1 hs13 [] rfl (WC.seq (fun K14 hK14 => ?_))
 refine WC.cq rfl (fun h15 qh15 => ?_) (fun h15 qh15 => ?_)
 ·refine WC.skip (hK14 _ _ (WC.seq (fun K16 hK16 => WC.block (WC.sr ?_))))
  refine WL.val rfl rfl rfl (Run.idxN Tryz.runUnderlying74 Tryz.sizeOf164 rfl rfl rfl ?_ ?_ ?_) ?_
  · exact SlF.some_ (SlF.st0 f_g.Cells hs13)
  · omega
  · omega
  refine WL.val rfl rfl rfl (Run.loadA Tryz.isAgg164 Tryz.sizeOf164 rfl rfl (SlF.whole (SlF.st0 f_g.Cells hs13) ?_)) ?_
  · omega
  refine WL.al hs13 Tryz.zeroValue164 rfl rfl (fun b17 _ hs18 => WL.st tbk hs18 0 rfl rfl (fun _ hs19 => WL.nil (WC.sr (WL.r 1 hs19 [0] rfl (WL.cl Tryz.call185 rfl (k38_ _ _ _ _ _ _ _) ?_)))))
  rintro _ whs20 ⟨rfl, hs20⟩
  replace hs20 := hs19.call0 hs20
  refine ⟨_, rfl, WL.r 1 hs20 [] rfl (WL.nil (WC.cq rfl (fun h21 qh21 => ?_) (fun h21 qh21 => ?_)))⟩
  ·have hci : cellOk (gat encCell g.Cells.xs i) = false := by simpa using h21
   refine WC.r1 hs20 [] rfl (WC.ret (ibR (tkR (tkR (ibR (tkR ?_))))))
   clear hK16 hK12
   refine rtv rfl rfl hs20 ?_
   rw [show gridOk g.dat = false from by unfold gridOk; rw [show cellsOk g.dat.Cells = false from cellsOk_not (i := i) (by show i < g.Cells.xs.length; omega) hci, Bool.and_false]]
  have hci : cellOk (gat encCell g.Cells.xs i) = true := by simpa using h21
  refine WC.skip (hK16 _ _ (WC.region (WL.r 2 hs20 [] rfl (WL.nil (tkN ?_)))))
  refine ⟨sbF rfl, (hs20.drop (by repeat (first | exact List.Sublist.refl _ | exact List.sublist_append_left _ _ | exact List.Sublist.trans (List.sublist_append_left _ _) (List.sublist_append_left _ _) | apply List.Sublist.cons | refine List.Sublist.trans ?_ (sR _)))), _, ?_, i + 1, rfl, ?_, ?_, ⟨rfl, trivial⟩⟩
  · omega
  · omega
  · intro j hj; rcases Nat.lt_or_ge j i with h_ | h_
    · exact p1 j h_
    · obtain rfl : j = i := by omega
      exact hci
 refine WC.exit (hK12 _ _ (WC.r1 hs13 [] rfl (WC.ret (rtv rfl rfl hs13 ?_))))
 rw [show gridOk g.dat = true from by unfold gridOk; rw [show cellsOk g.dat.Cells = true from cellsOk_all (fun j hj => p1 j (by have : j < g.Cells.xs.length := hj; omega)), show isSize g.dat.W g.dat.H = true from hs.1, decide_eq_true (show (g.dat.Cells.length : Int) = g.dat.W * g.dat.H from by show (g.Cells.xs.length : Int) = g.W * g.H; rw [nl_g_Cells]; exact hs.2)]; rfl]
theorem k129_ (r : RowR) (w : World) (f_r : okRowR 549755813888 w r) :
    Calls Tryz.prog 220 #[.agg #[.slice r.Cells.A r.Cells.n r.Cells.c]] w fun e w' => e = .returned (.bool (rowOk r.dat)) ∧ St w [] [] w' := by
 have nb_r_Cells := f_r.Cells_n
 have nl_r_Cells := f_r.Cells.len
 refine enter 26 Tryz.func220 rfl Tryz.ntmps220 rfl rfl ?_
 have hs1 := St.init w
 refine WC.sr (WL.bx hs1 rfl (fun b2 _ hs3 => WL.r 1 hs3 [] rfl (WL.nil (WC.seq (fun K4 hK4 => WC.r1 hs3 [0] rfl (WC.block ?_))))))
 refine WC.lS [1, 6, 7] rfl hs3 (fun k_ f w' => ∃ (i : Nat), k_ = r.Cells.n - i ∧ (i ≤ r.Cells.n) ∧ (∀ j, j < i → cellOk (gat encCell r.Cells.xs j) = true) ∧ Sub [(8, .int .i64 i)] f) ((fun (i : Nat) => r.Cells.n - i) (0)) ?_ ?_
 ·refine ⟨0, rfl, ?_, ?_, ⟨rfl, trivial⟩⟩
  · exact Nat.zero_le _
  · exact fun j hj => absurd hj (by omega)
 clear hs3
 rintro _ f w ⟨i, rfl, p0, p1, hG⟩ hF hs5
 refine WC.sub _ (hG.app hF) ?_
 clear hG hF
 refine WC.r1 hs5 [] rfl (WC.seq (fun K6 hK6 => ?_))
 refine WC.cq rfl (fun h7 qh7 => ?_) (fun h7 qh7 => ?_)
 ·refine WC.skip (hK6 _ _ (WC.seq (fun K8 hK8 => WC.block (WC.sr ?_))))
  refine WL.val rfl rfl rfl (Run.idxN Tryz.runUnderlying74 Tryz.sizeOf164 rfl rfl rfl ?_ ?_ ?_) ?_
  · exact SlF.some_ (SlF.st0 f_r.Cells hs5)
  · omega
  · omega
  refine WL.val rfl rfl rfl (Run.loadA Tryz.isAgg164 Tryz.sizeOf164 rfl rfl (SlF.whole (SlF.st0 f_r.Cells hs5) ?_)) ?_
  · omega
  refine WL.al hs5 Tryz.zeroValue164 rfl rfl (fun b9 _ hs10 => WL.st tbk hs10 0 rfl rfl (fun _ hs11 => WL.nil (WC.sr (WL.r 1 hs11 [0] rfl (WL.cl Tryz.call185 rfl (k38_ _ _ _ _ _ _ _) ?_)))))
  rintro _ whs12 ⟨rfl, hs12⟩
  replace hs12 := hs11.call0 hs12
  refine ⟨_, rfl, WL.r 1 hs12 [] rfl (WL.nil (WC.cq rfl (fun h13 qh13 => ?_) (fun h13 qh13 => ?_)))⟩
  ·have hci : cellOk (gat encCell r.Cells.xs i) = false := by simpa using h13
   refine WC.r1 hs12 [] rfl (WC.ret (ibR (tkR (tkR (ibR (tkR ?_))))))
   clear hK8 hK4
   refine rtv rfl rfl hs12 ?_
   rw [show rowOk r.dat = false from by unfold rowOk; rw [show cellsOk r.dat.Cells = false from cellsOk_not (i := i) (by show i < r.Cells.xs.length; omega) hci, Bool.and_false]]
  have hci : cellOk (gat encCell r.Cells.xs i) = true := by simpa using h13
  refine WC.skip (hK8 _ _ (WC.region (WL.r 2 hs12 [] rfl (WL.nil (tkN ?_)))))
  refine ⟨sbF rfl, (hs12.drop (by repeat (first | exact List.Sublist.refl _ | exact List.sublist_append_left _ _ | exact List.Sublist.trans (List.sublist_append_left _ _) (List.sublist_append_left _ _) | apply List.Sublist.cons | refine List.Sublist.trans ?_ (sR _)))), _, ?_, i + 1, rfl, ?_, ?_, ⟨rfl, trivial⟩⟩
  · omega
  · omega
  · intro j hj; rcases Nat.lt_or_ge j i with h_ | h_
    · exact p1 j h_
    · obtain rfl : j = i := by omega
      exact hci
 refine WC.exit (hK4 _ _ (WC.sr (WL.r 5 hs5 [0] rfl (WL.pA tbk 4 Acts.nil hs5 [0] rfl rfl rfl rfl (fun g_ => ⟨rfl, trivial⟩) (WL.r 1 hs5 [] rfl (WL.nil (WC.ret ?_)))))))
 refine rtv rfl rfl hs5 ?_
 rw [show rowOk r.dat = within (r.Cells.n : Int) 1 120 from by unfold rowOk; rw [show cellsOk r.dat.Cells = true from cellsOk_all (fun j hj => p1 j (by have : j < r.Cells.xs.length := hj; omega)), Bool.and_true, ← nl_r_Cells]; rfl]; rfl
set_option maxHeartbeats 4000000 in
theorem k130_ (s : ScrR) (w : World) (f_s : okScrR 549755813888 w s) :
    Calls Tryz.prog 183 #[.agg (cScr s).toArray] w fun e w' => e = .returned (.bool (scrOk s.dat)) ∧ St w [] [] w' := by
 have nb_s_Main_Cells := f_s.Main.Cells_n
 have nl_s_Main_Cells := f_s.Main.Cells.len
 have nb_s_Alt_Cells := f_s.Alt.Cells_n
 have nl_s_Alt_Cells := f_s.Alt.Cells.len
 have nb_s_Tabs := f_s.Tabs_n
 have nl_s_Tabs := f_s.Tabs.len
 have nb_s_Back := f_s.Back_n
 have nl_s_Back := f_s.Back.sl.len
 refine enter 208 Tryz.func183 rfl Tryz.ntmps183 rfl rfl ?_
 have hs1 := St.init w
 refine WC.sr (WL.bx hs1 rfl (fun b2 _ hs3 => WL.r 1 hs3 [] rfl (WL.nil (WC.seq (fun K4 hK4 => WC.sr (WL.r 2 hs3 [0] rfl (WL.cl Tryz.call219 rfl (k128_ s.Main _ (okGridR.st0 f_s.Main hs3)) ?_)))))))
 rintro _ whs5 ⟨rfl, hs5⟩
 replace hs5 := hs3.call0 hs5
 refine ⟨_, rfl, WL.r 2 hs5 [] rfl ?_⟩
 apply WL.gO 4 Acts.nil hs5 rfl
 ·intro g6 J7
  have qg6 := g6
  try simp only [bf, within_iff, within_not] at qg6
  refine WL.runA tbk 2 (Acts.nil.cons (j := 4) rfl g6) hs5 [0] rfl ⟨rfl, trivial⟩ (WL.call (wantF rfl g6) rfl rfl (Run.call Tryz.call219 rfl rfl rfl) (k128_ s.Alt _ (okGridR.st0 f_s.Alt hs5)) ?_)
  rintro _ whs8 ⟨rfl, hs8⟩
  replace hs8 := hs5.call0 hs8
  refine ⟨_, rfl, WL.runA tbk 1 (Acts.nil.cons (j := 4) rfl g6) hs8 [] rfl trivial (WL.eO 4 Acts.nil J7 hs8 g6 rfl rfl)⟩
 intro _ hs9
 refine WL.r 1 hs9 [] rfl (WL.pO tbk 6 Acts.nil hs9 [0, 0] rfl rfl rfl rfl (fun g_ => ⟨rfl, rfl, trivial⟩) (WL.r 1 hs9 [] rfl (WL.pO tbk 6 Acts.nil hs9 [0, 0] rfl rfl rfl rfl (fun g_ => ⟨rfl, rfl, trivial⟩) (WL.r 1 hs9 [] rfl (WL.pO tbk 6 Acts.nil hs9 [0, 0] rfl rfl rfl rfl (fun g_ => ⟨rfl, rfl, trivial⟩) (WL.r 1 hs9 [] rfl (WL.pO tbk 6 Acts.nil hs9 [0, 0] rfl rfl rfl rfl (fun g_ => ⟨rfl, rfl, trivial⟩) ?_)))))))
 refine WL.nil (WC.cq rfl (fun h10 qh10 => ?_) (fun h10 qh10 => ?_))
 ·have hp1 : scrP1 s.dat = false := by have h9 := h10; unfold scrP1 gridFit; show ((gridOk s.Main.dat && (decide (s.Main.W = s.W) && decide (s.Main.H = s.H))) && (gridOk s.Alt.dat && (decide (s.Alt.W = s.W) && decide (s.Alt.H = s.H)))) = false; revert h9; cases gridOk s.Main.dat <;> cases gridOk s.Alt.dat <;> cases decide (s.Main.W = s.W) <;> cases decide (s.Main.H = s.H) <;> cases decide (s.Alt.W = s.W) <;> cases decide (s.Alt.H = s.H) <;> simp
  refine WC.r1 hs9 [] rfl (WC.ret (tkR ?_))
  clear hK4
  refine rtv rfl rfl hs9 ?_
  rw [scrOk_no (.inl hp1)]
 have hp1 : scrP1 s.dat = true := by have h9 := h10; unfold scrP1 gridFit; show ((gridOk s.Main.dat && (decide (s.Main.W = s.W) && decide (s.Main.H = s.H))) && (gridOk s.Alt.dat && (decide (s.Alt.W = s.W) && decide (s.Alt.H = s.H)))) = true; revert h9; cases gridOk s.Main.dat <;> cases gridOk s.Alt.dat <;> cases decide (s.Main.W = s.W) <;> cases decide (s.Main.H = s.H) <;> cases decide (s.Alt.W = s.W) <;> cases decide (s.Alt.H = s.H) <;> simp
 have hbn : (1 ≤ s.W ∧ s.W ≤ 120) ∧ (1 ≤ s.H ∧ s.H ≤ 120) ∧ s.Main.W = s.W ∧ s.Main.H = s.H ∧ s.Alt.W = s.W ∧ s.Alt.H = s.H := scrP1_bnd hp1
 refine WC.skip (hK4 _ _ (WC.seq (fun K11 hK11 => WC.sr (WL.r 4 hs9 [0] rfl (WL.pO tbk 5 Acts.nil hs9 [0, 0] rfl rfl rfl rfl (fun g_ => ⟨rfl, rfl, trivial⟩) (WL.r 1 hs9 [] rfl (WL.pO tbk 3 Acts.nil hs9 [0] rfl rfl rfl rfl (fun g_ => ⟨rfl, trivial⟩) ?_)))))))
 refine WL.r 1 hs9 [] rfl (WL.pO tbk 5 Acts.nil hs9 [0, 0] rfl rfl rfl rfl (fun g_ => ⟨rfl, rfl, trivial⟩) (WL.r 1 hs9 [] rfl ?_))
 apply WL.gO 10 Acts.nil hs9 rfl
 ·intro g12 J13
  have qg12 := g12
  try simp only [bf, within_iff, within_not] at qg12
  refine WL.runA tbk 3 (Acts.nil.cons (j := 22) rfl g12) hs9 [0] rfl ⟨rfl, trivial⟩ ?_
  refine WL.pA tbk 6 (Acts.nil.cons (j := 22) rfl g12) hs9 [0, 0] rfl rfl rfl rfl (fun g_ => by (try simp only [bf, within_iff, within_not] at g_); exact ⟨by omega, rfl, rfl, trivial⟩) (WL.eO 4 Acts.nil J13 hs9 g12 rfl rfl)
 intro _ hs14
 refine WL.r 1 hs14 [] rfl (WL.pO tbk 3 Acts.nil hs14 [0] rfl rfl rfl rfl (fun g_ => ⟨rfl, trivial⟩) (WL.r 1 hs14 [] rfl (WL.pO tbk 5 Acts.nil hs14 [0, 0] rfl rfl rfl rfl (fun g_ => ⟨rfl, rfl, trivial⟩) (WL.r 1 hs14 [] rfl (WL.pO tbk 3 Acts.nil hs14 [0] rfl rfl rfl rfl (fun g_ => ⟨rfl, trivial⟩) (WL.r 1 hs14 [] rfl (WL.pO tbk 5 Acts.nil hs14 [0, 0] rfl rfl rfl rfl (fun g_ => ⟨rfl, rfl, trivial⟩) ?_)))))))
 refine WL.r 1 hs14 [] rfl ?_
 apply WL.gO 4 Acts.nil hs14 rfl
 ·intro g15 J16
  have qg15 := g15
  try simp only [bf, within_iff, within_not] at qg15
  refine WL.runA tbk 2 (Acts.nil.cons (j := 58) rfl g15) hs14 [0] rfl ⟨rfl, trivial⟩ (WL.call (wantF rfl g15) rfl rfl (Run.call Tryz.call184 rfl rfl rfl) (k36_ _ _ _ _ _ _) ?_)
  rintro _ whs17 ⟨rfl, hs17⟩
  replace hs17 := hs14.call0 hs17
  refine ⟨_, rfl, WL.runA tbk 1 (Acts.nil.cons (j := 58) rfl g15) hs17 [] rfl trivial (WL.eO 4 Acts.nil J16 hs17 g15 rfl rfl)⟩
 intro _ hs18
 refine WL.r 1 hs18 [] rfl ?_
 apply WL.gO 4 Acts.nil hs18 rfl
 ·intro g19 J20
  have qg19 := g19
  try simp only [bf, within_iff, within_not] at qg19
  refine WL.runA tbk 2 (Acts.nil.cons (j := 64) rfl g19) hs18 [0] rfl ⟨rfl, trivial⟩ (WL.call (wantF rfl g19) rfl rfl (Run.call Tryz.call184 rfl rfl rfl) (k36_ _ _ _ _ _ _) ?_)
  rintro _ whs21 ⟨rfl, hs21⟩
  replace hs21 := hs18.call0 hs21
  refine ⟨_, rfl, WL.runA tbk 1 (Acts.nil.cons (j := 64) rfl g19) hs21 [] rfl trivial (WL.eO 4 Acts.nil J20 hs21 g19 rfl rfl)⟩
 intro _ hs22
 refine WL.nil (WC.cq rfl (fun h23 qh23 => ?_) (fun h23 qh23 => ?_))
 ·have hp2 : scrP2 s.dat = false := by have h9 := h23; unfold scrP2 gridHas within; show ((((decide (0 ≤ s.X) && decide (s.X ≤ s.Main.W - 1)) && (decide (0 ≤ s.Y) && decide (s.Y ≤ s.Main.H - 1))) && ((decide (0 ≤ s.SaveX) && decide (s.SaveX ≤ s.Main.W - 1)) && (decide (0 ≤ s.SaveY) && decide (s.SaveY ≤ s.Main.H - 1)))) && ((!s.Wrap || decide (s.X = s.W - 1)) && (attrOk s.A.Fg s.A.Bg && attrOk s.SaveA.Fg s.SaveA.Bg))) = false; revert h9; cases s.Wrap <;> cases attrOk s.A.Fg s.A.Bg <;> cases attrOk s.SaveA.Fg s.SaveA.Bg <;> intro h9 <;> simp at h9 ⊢ <;> omega
  refine WC.r1 hs22 [] rfl (WC.ret (tkR ?_))
  clear hK11
  refine rtv rfl rfl hs22 ?_
  rw [scrOk_no (.inr (.inl hp2))]
 have hp2 : scrP2 s.dat = true := by have h9 := h23; unfold scrP2 gridHas within; show ((((decide (0 ≤ s.X) && decide (s.X ≤ s.Main.W - 1)) && (decide (0 ≤ s.Y) && decide (s.Y ≤ s.Main.H - 1))) && ((decide (0 ≤ s.SaveX) && decide (s.SaveX ≤ s.Main.W - 1)) && (decide (0 ≤ s.SaveY) && decide (s.SaveY ≤ s.Main.H - 1)))) && ((!s.Wrap || decide (s.X = s.W - 1)) && (attrOk s.A.Fg s.A.Bg && attrOk s.SaveA.Fg s.SaveA.Bg))) = true; revert h9; cases s.Wrap <;> cases attrOk s.A.Fg s.A.Bg <;> cases attrOk s.SaveA.Fg s.SaveA.Bg <;> intro h9 <;> simp at h9 ⊢ <;> omega
 refine WC.skip (hK11 _ _ (WC.seq (fun K24 hK24 => WC.sr (WL.r 4 hs22 [0] rfl (WL.pO tbk 5 Acts.nil hs22 [0, 0] rfl rfl rfl rfl (fun g_ => ⟨rfl, rfl, trivial⟩) (WL.r 1 hs22 [] rfl (WL.pO tbk 5 Acts.nil hs22 [0, 0] rfl rfl rfl rfl (fun g_ => ⟨rfl, rfl, trivial⟩) ?_)))))))
 refine WL.r 1 hs22 [] rfl ?_
 apply WL.gO 10 Acts.nil hs22 rfl
 ·intro g25 J26
  have qg25 := g25
  try simp only [bf, within_iff, within_not] at qg25
  refine WL.runA tbk 6 (Acts.nil.cons (j := 17) rfl g25) hs22 [0, 0] rfl ⟨rfl, rfl, trivial⟩ (WL.pA tbk 3 (Acts.nil.cons (j := 17) rfl g25) hs22 [0] rfl rfl rfl rfl (fun g_ => ⟨rfl, trivial⟩) (WL.eO 7 Acts.nil J26 hs22 g25 rfl rfl))
 intro _ hs27
 refine WL.r 1 hs27 [] rfl (WL.pO tbk 3 Acts.nil hs27 [0] rfl rfl rfl rfl (fun g_ => ⟨rfl, trivial⟩) (WL.r 1 hs27 [] rfl (WL.pO tbk 3 Acts.nil hs27 [0] rfl rfl rfl rfl (fun g_ => ⟨rfl, trivial⟩) (WL.r 1 hs27 [] rfl (WL.pO tbk 6 Acts.nil hs27 [0, 0] rfl rfl rfl rfl (fun g_ => ⟨rfl, rfl, trivial⟩) (WL.nil (WC.cq rfl (fun h28 qh28 => ?_) (fun h28 qh28 => ?_))))))))
 ·have hp34 : scrP3 s.dat = false ∨ scrP4 s.dat = false := by have h9 := h28; unfold scrP3 scrP4 within; show ((decide (0 ≤ s.Top) && decide (s.Top ≤ s.Bot)) && (decide (s.Bot < s.H) && (!decide (s.Top = s.Bot) || decide (s.H = 1)))) = false ∨ ((decide (0 ≤ s.Limit) && decide (s.Limit ≤ 100)) && decide (((s.Back.xs.map RowR.dat).length : Int) ≤ s.Limit)) = false; rw [List.length_map, nl_s_Back]; simp at h9 ⊢; omega
  refine WC.r1 hs27 [] rfl (WC.ret (tkR ?_))
  clear hK24
  refine rtv rfl rfl hs27 ?_
  rw [scrOk_no (.inr (.inr (hp34.elim .inl (fun h => .inr (.inl h)))))]
 have hp34 : scrP3 s.dat = true ∧ scrP4 s.dat = true := by have h9 := h28; unfold scrP3 scrP4 within; show ((decide (0 ≤ s.Top) && decide (s.Top ≤ s.Bot)) && (decide (s.Bot < s.H) && (!decide (s.Top = s.Bot) || decide (s.H = 1)))) = true ∧ ((decide (0 ≤ s.Limit) && decide (s.Limit ≤ 100)) && decide (((s.Back.xs.map RowR.dat).length : Int) ≤ s.Limit)) = true; rw [List.length_map, nl_s_Back]; simp at h9 ⊢; omega
 refine WC.skip (hK24 _ _ (WC.seq (fun K29 hK29 => WC.r1 hs27 [0] rfl (WC.block ?_))))
 refine WC.lS [1, 48, 118, 165, 167, 168] rfl hs27 (fun k_ f w' => ∃ (i : Nat), k_ = s.Tabs.n - i ∧ (i ≤ s.Tabs.n) ∧ (∀ j, j < i → ascAt s.Tabs.xs 0 (s.W - 1) j = true) ∧ Sub [(169, .int .i64 i)] f) ((fun (i : Nat) => s.Tabs.n - i) (0)) ?_ ?_
 ·refine ⟨0, rfl, ?_, ?_, ⟨rfl, trivial⟩⟩
  · exact Nat.zero_le _
  · exact fun j hj => absurd hj (by omega)
 clear hs27
 rintro _ f w ⟨i, rfl, p0, p1, hG⟩ hF hs30
 refine WC.sub _ (hG.app hF) ?_
 clear hG hF
 refine WC.r1 hs30 [] rfl (WC.seq (fun K31 hK31 => ?_))
 refine WC.cq rfl (fun h32 qh32 => ?_) (fun h32 qh32 => ?_)
 ·refine WC.skip (hK31 _ _ (WC.seq (fun K33 hK33 => WC.block (WC.sr (WL.r 1 hs30 [] rfl ?_)))))
  refine WL.val rfl rfl rfl (Run.idxN Tryz.runUnderlying60 Tryz.sizeOf3 rfl rfl rfl ?_ ?_ ?_) ?_
  · exact SlF.some_ (SlF.st0 f_s.Tabs hs30)
  · omega
  · omega
  refine WL.val rfl rfl rfl (Run.load Tryz.isAgg3 rfl rfl (SlF.one1 (SlF.st0 f_s.Tabs hs30) ?_ rfl)) ?_
  · omega
  refine WL.r 2 hs30 [] rfl (WL.nil (WC.sr (WL.r 3 hs30 [] rfl (WL.pO tbk 4 Acts.nil hs30 [0] rfl rfl rfl rfl (fun g_ => ⟨rfl, trivial⟩) (WL.r 1 hs30 [] rfl ?_)))))
  apply WL.gO 12 Acts.nil hs30 rfl
  ·intro g34 J35
   have qg34 := g34
   try simp only [bf, within_iff, within_not] at qg34
   refine WL.runA tbk 3 (Acts.nil.cons (j := 8) rfl g34) hs30 [] rfl trivial ?_
   apply WL.gA 8 (Acts.nil.cons (j := 8) rfl g34) hs30 rfl
   ·intro g36 J37
    have qg36 := g36
    try simp only [bf, within_iff, within_not] at qg36
    refine WL.runA tbk 4 (Acts.nil.cons (j := 11) rfl g36) hs30 [0] rfl ⟨by omega, rfl, trivial⟩ (WL.val (wantT rfl g36) rfl rfl (Run.idxK (i - 1) Tryz.runUnderlying60 Tryz.sizeOf3 rfl rfl rfl ?_ ?_ ?_) ?_)
    · exact SlF.some_ (SlF.st0 f_s.Tabs hs30)
    · omega
    · omega
    refine WL.val (wantT rfl g36) rfl rfl (Run.load Tryz.isAgg3 rfl rfl (SlF.one1 (SlF.st0 f_s.Tabs hs30) ?_ rfl)) ?_
    · omega
    refine WL.runA tbk 2 (Acts.nil.cons (j := 11) rfl g36) hs30 [] rfl trivial (WL.eA 8 (Acts.nil.cons (j := 8) rfl g34) J37 hs30 g36 rfl rfl)
   intro _ hs38
   exact WL.eO 4 Acts.nil J35 hs38 g34 rfl rfl
  intro _ hs39
  refine WL.nil (WC.cq rfl (fun h40 qh40 => ?_) (fun h40 qh40 => ?_))
  ·have ha : ascAt s.Tabs.xs 0 (s.W - 1) i = false := by unfold ascAt within iat; have h9 := h40; simp at h9 ⊢; omega
   refine WC.r1 hs39 [] rfl (WC.ret (ibR (tkR (tkR (ibR (tkR ?_))))))
   clear hK33 hK29
   refine rtv rfl rfl hs39 ?_
   rw [scrOk_no (.inr (.inr (.inr (.inr (.inl (isAsc_not (i := i) (by show i < s.Tabs.xs.length; omega) ha))))))]
  have ha : ascAt s.Tabs.xs 0 (s.W - 1) i = true := by unfold ascAt within iat; have h9 := h40; simp at h9 ⊢; omega
  refine WC.skip (hK33 _ _ (WC.region (WL.r 2 hs39 [] rfl (WL.nil (tkN ?_)))))
  refine ⟨sbF rfl, hs39, _, ?_, i + 1, rfl, ?_, ?_, ⟨rfl, trivial⟩⟩
  · omega
  · omega
  · intro j hj; rcases Nat.lt_or_ge j i with h_ | h_
    · exact p1 j h_
    · obtain rfl : j = i := by omega
      exact ha
 have hasc : isAsc s.dat.Tabs 0 (s.dat.W - 1) = true := isAsc_all (fun j hj => p1 j (by have : j < s.Tabs.xs.length := hj; omega))
 refine WC.exit (hK29 _ _ (WC.seq (fun K41 hK41 => WC.r1 hs30 [0] rfl (WC.block ?_))))
 refine WC.lS [48, 118, 165, 170, 198, 199] rfl hs30 (fun k_ f w' => ∃ (i : Nat), k_ = s.Back.n - i ∧ (i ≤ s.Back.n) ∧ (∀ j, j < i → rowOk (RowR.dat (gat encRowR s.Back.xs j)) = true) ∧ Sub [(200, .int .i64 i)] f) ((fun (i : Nat) => s.Back.n - i) (0)) ?_ ?_
 ·refine ⟨0, rfl, ?_, ?_, ⟨rfl, trivial⟩⟩
  · exact Nat.zero_le _
  · exact fun j hj => absurd hj (by omega)
 clear hs30
 rintro _ f w ⟨i, rfl, r0, r1, hG⟩ hF hs42
 refine WC.sub _ (hG.app hF) ?_
 clear hG hF
 refine WC.r1 hs42 [] rfl (WC.seq (fun K43 hK43 => ?_))
 refine WC.cq rfl (fun h44 qh44 => ?_) (fun h44 qh44 => ?_)
 ·refine WC.skip (hK43 _ _ (WC.seq (fun K45 hK45 => WC.block (WC.sr ?_))))
  refine WL.val rfl rfl rfl (Run.idxN Tryz.runUnderlying87 Tryz.sizeOf181 rfl rfl rfl ?_ ?_ ?_) ?_
  · exact SlF.some_ (SlF.st0 f_s.Back.sl hs42)
  · omega
  · omega
  refine WL.val rfl rfl rfl (Run.loadA Tryz.isAgg181 Tryz.sizeOf181 rfl rfl (SlF.whole (SlF.st0 f_s.Back.sl hs42) ?_)) ?_
  · omega
  refine WL.al hs42 Tryz.zeroValue181 rfl rfl (fun b46 _ hs47 => WL.st tbk hs47 0 rfl rfl (fun _ hs48 => WL.nil (WC.sr (WL.r 1 hs48 [0] rfl (WL.cl Tryz.call220 rfl (k129_ (gat encRowR s.Back.xs i) _ (okRowR.st0 (SlN.nth f_s.Back (by omega)) hs48)) ?_)))))
  rintro _ whs49 ⟨rfl, hs49⟩
  replace hs49 := hs48.call0 hs49
  refine ⟨_, rfl, WL.r 1 hs49 [] rfl (WL.nil (WC.cq rfl (fun h50 qh50 => ?_) (fun h50 qh50 => ?_)))⟩
  ·refine WC.r1 hs49 [] rfl (WC.ret (ibR (tkR (tkR (ibR (tkR ?_))))))
   clear hK45 hK41
   refine rtv rfl rfl hs49 ?_
   rw [scrOk_no (.inr (.inr (.inr (.inr (.inr (all_gat_not (F := encRowR) (j := i) (by omega) (by simpa using h50)))))))]
  refine WC.skip (hK45 _ _ (WC.region (WL.r 2 hs49 [] rfl (WL.nil (tkN ?_)))))
  refine ⟨sbF rfl, (hs49.drop (by repeat (first | exact List.Sublist.refl _ | exact List.sublist_append_left _ _ | exact List.Sublist.trans (List.sublist_append_left _ _) (List.sublist_append_left _ _) | apply List.Sublist.cons | refine List.Sublist.trans ?_ (sR _)))), _, ?_, i + 1, rfl, ?_, ?_, ⟨rfl, trivial⟩⟩
  · omega
  · omega
  · intro j hj; rcases Nat.lt_or_ge j i with h_ | h_
    · exact r1 j h_
    · obtain rfl : j = i := by omega
      simpa using h50
 refine WC.exit (hK41 _ _ (WC.r1 hs42 [] rfl (WC.ret (rtv rfl rfl hs42 ?_))))
 rw [scrOk_all hp1 hp2 hp34.1 hp34.2 hasc (all_gat (F := encRowR) (fun j hj => r1 j (by omega)))]
theorem k131_ (t : TermR) (w : World) (f_t : okTermR 549755813888 w t) :
    Calls Tryz.prog 136 #[.agg #[i64 t.P.State, .bool t.P.Mark, .slice t.P.Args.A t.P.Args.n t.P.Args.c, .slice t.P.Part.A t.P.Part.n t.P.Part.c, i64 t.S.W, i64 t.S.H, i64 t.S.Main.W, i64 t.S.Main.H, .slice t.S.Main.Cells.A t.S.Main.Cells.n t.S.Main.Cells.c, i64 t.S.Alt.W, i64 t.S.Alt.H, .slice t.S.Alt.Cells.A t.S.Alt.Cells.n t.S.Alt.Cells.c, .bool t.S.OnAlt, i64 t.S.X, i64 t.S.Y, .bool t.S.Wrap, i64 t.S.A.Fg, i64 t.S.A.Bg, .bool t.S.A.Bold, .bool t.S.A.Under, .bool t.S.A.Turn, i64 t.S.Top, i64 t.S.Bot, .bool t.S.NoWrap, .bool t.S.Hide, i64 t.S.SaveX, i64 t.S.SaveY, i64 t.S.SaveA.Fg, i64 t.S.SaveA.Bg, .bool t.S.SaveA.Bold, .bool t.S.SaveA.Under, .bool t.S.SaveA.Turn, .slice t.S.Tabs.A t.S.Tabs.n t.S.Tabs.c, i64 t.S.Limit, .slice t.S.Back.A t.S.Back.n t.S.Back.c]] w fun e w' => e = .returned (.bool (termOk t.dat)) ∧ St w [] [] w' := by
 have nb_t_P_Args := f_t.P.Args_n
 have nl_t_P_Args := f_t.P.Args.len
 have nb_t_P_Part := f_t.P.Part_n
 have nl_t_P_Part := f_t.P.Part.len
 have nb_t_S_Main_Cells := f_t.S.Main.Cells_n
 have nl_t_S_Main_Cells := f_t.S.Main.Cells.len
 have nb_t_S_Alt_Cells := f_t.S.Alt.Cells_n
 have nl_t_S_Alt_Cells := f_t.S.Alt.Cells.len
 have nb_t_S_Tabs := f_t.S.Tabs_n
 have nl_t_S_Tabs := f_t.S.Tabs.len
 have nb_t_S_Back := f_t.S.Back_n
 have nl_t_S_Back := f_t.S.Back.sl.len
 refine enter 11 Tryz.func136 rfl Tryz.ntmps136 rfl rfl ?_
 have hs1 := St.init w
 refine WC.sr (WL.bx hs1 rfl (fun b2 _ hs3 => WL.r 1 hs3 [] rfl (WL.nil (WC.sr (WL.r 2 hs3 [0] rfl (WL.cl Tryz.call182 rfl (k54_ t.P _ (okVpR.st0 f_t.P hs3)) ?_))))))
 rintro _ whs4 ⟨rfl, hs4⟩
 replace hs4 := hs3.call0 hs4
 refine ⟨_, rfl, WL.r 1 hs4 [] rfl ?_⟩
 apply WL.gA 3 Acts.nil hs4 rfl
 ·intro g5 J6
  have qg5 := g5
  try simp only [bf, within_iff, within_not] at qg5
  refine WL.runA tbk 2 (Acts.nil.cons (j := 3) rfl g5) hs4 [0] rfl ⟨rfl, trivial⟩ (WL.call (wantT rfl g5) rfl rfl (Run.call Tryz.call183 rfl rfl rfl) (k130_ t.S _ (okScrR.st0 f_t.S hs4)) ?_)
  rintro _ whs7 ⟨rfl, hs7⟩
  replace hs7 := hs4.call0 hs7
  refine ⟨_, rfl, WL.eA 3 Acts.nil J6 hs7 g5 rfl rfl⟩
 intro _ hs8
 refine WL.r 1 hs8 [] rfl (WL.nil (WC.ret (rtv rfl rfl hs8 ?_)))
 rfl
end Go.Proofs.YthfhhldbglaieaaGreat
