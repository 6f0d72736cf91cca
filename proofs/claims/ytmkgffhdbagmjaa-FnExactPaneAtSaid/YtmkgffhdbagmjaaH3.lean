/- Walks of Go functions, printed by a program (wip/gen). -/
import Derived.Test.YtmkgffhdbagmjaaH2
namespace Go.Proofs.Ytmkgffhdbagmjaa
open Go Go.RowKit
set_option linter.unusedVariables false
set_option linter.unusedSimpArgs false
set_option maxHeartbeats 4000000 in
theorem c_laws_szPane (a : PaneR) (left : Int) (w : World) (f_a : okPaneR 9223372036854775807 w a) (h1 : 0 ≤ left) (h2 : left ≤ 1048576) :
    Calls Try.prog 8 #[.agg #[i64 a.Id, .string a.Cmd, .string a.Dir, i64 a.Life, i64 a.Code, i64 a.Pid, i64 a.Term.P.State, .bool a.Term.P.Mark, .slice a.Term.P.Args.A a.Term.P.Args.n a.Term.P.Args.c, .slice a.Term.P.Part.A a.Term.P.Part.n a.Term.P.Part.c, i64 a.Term.S.W, i64 a.Term.S.H, i64 a.Term.S.Main.W, i64 a.Term.S.Main.H, .slice a.Term.S.Main.Cells.A a.Term.S.Main.Cells.n a.Term.S.Main.Cells.c, i64 a.Term.S.Alt.W, i64 a.Term.S.Alt.H, .slice a.Term.S.Alt.Cells.A a.Term.S.Alt.Cells.n a.Term.S.Alt.Cells.c, .bool a.Term.S.OnAlt, i64 a.Term.S.X, i64 a.Term.S.Y, .bool a.Term.S.Wrap, i64 a.Term.S.A.Fg, i64 a.Term.S.A.Bg, .bool a.Term.S.A.Bold, .bool a.Term.S.A.Under, .bool a.Term.S.A.Turn, i64 a.Term.S.Top, i64 a.Term.S.Bot, .bool a.Term.S.NoWrap, .bool a.Term.S.Hide, i64 a.Term.S.SaveX, i64 a.Term.S.SaveY, i64 a.Term.S.SaveA.Fg, i64 a.Term.S.SaveA.Bg, .bool a.Term.S.SaveA.Bold, .bool a.Term.S.SaveA.Under, .bool a.Term.S.SaveA.Turn, .slice a.Term.S.Tabs.A a.Term.S.Tabs.n a.Term.S.Tabs.c, i64 a.Term.S.Limit, .slice a.Term.S.Back.A a.Term.S.Back.n a.Term.S.Back.c], i64 left] w fun e w' => e = .returned (.int .i64 (szR left (totPane a.dat))) ∧ St w [] [] w' := by
 have nz_a_Cmd := f_a.Cmd_z
 have nz_a_Dir := f_a.Dir_z
 have nb_a_Term_P_Args := f_a.Term.P.Args_n
 have nl_a_Term_P_Args := f_a.Term.P.Args.len
 have nb_a_Term_P_Part := f_a.Term.P.Part_n
 have nl_a_Term_P_Part := f_a.Term.P.Part.len
 have nb_a_Term_S_Main_Cells := f_a.Term.S.Main.Cells_n
 have nl_a_Term_S_Main_Cells := f_a.Term.S.Main.Cells.len
 have nb_a_Term_S_Alt_Cells := f_a.Term.S.Alt.Cells_n
 have nl_a_Term_S_Alt_Cells := f_a.Term.S.Alt.Cells.len
 have nb_a_Term_S_Tabs := f_a.Term.S.Tabs_n
 have nl_a_Term_S_Tabs := f_a.Term.S.Tabs.len
 have nb_a_Term_S_Back := f_a.Term.S.Back_n
 have nl_a_Term_S_Back := f_a.Term.S.Back.sl.len
 refine enter (vs := [.agg #[i64 a.Id, .string a.Cmd, .string a.Dir, i64 a.Life, i64 a.Code, i64 a.Pid, i64 a.Term.P.State, .bool a.Term.P.Mark, .slice a.Term.P.Args.A a.Term.P.Args.n a.Term.P.Args.c, .slice a.Term.P.Part.A a.Term.P.Part.n a.Term.P.Part.c, i64 a.Term.S.W, i64 a.Term.S.H, i64 a.Term.S.Main.W, i64 a.Term.S.Main.H, .slice a.Term.S.Main.Cells.A a.Term.S.Main.Cells.n a.Term.S.Main.Cells.c, i64 a.Term.S.Alt.W, i64 a.Term.S.Alt.H, .slice a.Term.S.Alt.Cells.A a.Term.S.Alt.Cells.n a.Term.S.Alt.Cells.c, .bool a.Term.S.OnAlt, i64 a.Term.S.X, i64 a.Term.S.Y, .bool a.Term.S.Wrap, i64 a.Term.S.A.Fg, i64 a.Term.S.A.Bg, .bool a.Term.S.A.Bold, .bool a.Term.S.A.Under, .bool a.Term.S.A.Turn, i64 a.Term.S.Top, i64 a.Term.S.Bot, .bool a.Term.S.NoWrap, .bool a.Term.S.Hide, i64 a.Term.S.SaveX, i64 a.Term.S.SaveY, i64 a.Term.S.SaveA.Fg, i64 a.Term.S.SaveA.Bg, .bool a.Term.S.SaveA.Bold, .bool a.Term.S.SaveA.Under, .bool a.Term.S.SaveA.Turn, .slice a.Term.S.Tabs.A a.Term.S.Tabs.n a.Term.S.Tabs.c, i64 a.Term.S.Limit, .slice a.Term.S.Back.A a.Term.S.Back.n a.Term.S.Back.c], i64 left]) 26 Try.func8 rfl Try.ntmps8 rfl rfl ?_
 have hs1 := St.init w
 refine WC.sr ?_
 refine WL.bx hs1 rfl (fun b2 _ hs3 => ?_)
 refine WL.run tbk 1 hs3 [] rfl trivial ?_
 refine WL.nil ?_
 refine WC.rr tbk hs3 [0] rfl ⟨by omega, rfl, trivial⟩ ?_
 refine WC.seq (fun K4 hK4 => ?_)
 refine WC.rr tbk hs3 [] rfl trivial ?_
 refine WC.cD rfl (fun qh5 => ?_) (fun qh5 => ?_)
 ·try have soh5 := szR_ok qh5 (by omega)
  try have sbh5 := szR_b qh5 (by omega) (by first | assumption | omega)
  try have snh5 := szR_no qh5
  refine WC.rr tbk hs3 [] rfl trivial ?_
  refine WC.ret ?_
  refine tkR ?_
  clear hK4
  refine retV1 rfl (resV.tmp rfl) ?_
  refine ⟨congrArg Ending.returned ?_, hs3.nil⟩
  simp only [totGrid, totPane, totScr, totTerm, totVp, GridR.dat, PaneR.dat, ScrR.dat, TermR.dat, VpR.dat] at *; first | (rw [szR_lt (by omega)]; done) | (refine congrArg (Value.int _) ?_; symm; refine (szR_le ?_).trans ?_ <;> omega) | rfl
 ·try have soh5 := szR_ok qh5 (by omega)
  try have sbh5 := szR_b qh5 (by omega) (by first | assumption | omega)
  try have snh5 := szR_no qh5
  refine WC.skip ?_
  refine hK4 _ _ ?_
  refine WC.rr tbk hs3 [0] rfl ⟨by omega, rfl, trivial⟩ ?_
  refine WC.seq (fun K6 hK6 => ?_)
  refine WC.rr tbk hs3 [] rfl trivial ?_
  refine WC.cD rfl (fun qh7 => ?_) (fun qh7 => ?_)
  ·try have soh7 := szR_ok qh7 (by omega)
   try have sbh7 := szR_b qh7 (by omega) (by first | assumption | omega)
   try have snh7 := szR_no qh7
   refine WC.rr tbk hs3 [] rfl trivial ?_
   refine WC.ret ?_
   refine tkR ?_
   clear hK6
   refine retV1 rfl (resV.tmp rfl) ?_
   refine ⟨congrArg Ending.returned ?_, hs3.nil⟩
   simp only [totGrid, totPane, totScr, totTerm, totVp, GridR.dat, PaneR.dat, ScrR.dat, TermR.dat, VpR.dat] at *; first | (rw [szR_lt (by omega)]; done) | (refine congrArg (Value.int _) ?_; symm; refine (szR_le ?_).trans ?_ <;> omega) | rfl
  ·try have soh7 := szR_ok qh7 (by omega)
   try have sbh7 := szR_b qh7 (by omega) (by first | assumption | omega)
   try have snh7 := szR_no qh7
   refine WC.skip ?_
   refine hK6 _ _ ?_
   refine WC.sr ?_
   refine WL.run tbk 3 hs3 [0] rfl ⟨rfl, trivial⟩ ?_
   refine WL.call rfl rfl rfl (Run.call Try.call24 rfl rfl rfl) (c_laws_szTerm a.Term _ _ (okTermR.st0 f_a.Term hs3) ?_ ?_) ?_
   · first | assumption | omega
   · first | assumption | omega | exact szR_b (by assumption) (by omega) (by first | assumption | omega)
   rintro _ whs8 ⟨rfl, hs8⟩
   replace hs8 := hs3.call0 hs8
   refine ⟨_, rfl, ?_⟩
   refine WL.run tbk 1 hs8 [] rfl trivial ?_
   refine WL.nil ?_
   refine WC.seq (fun K9 hK9 => ?_)
   refine WC.rr tbk hs8 [] rfl trivial ?_
   refine WC.cD rfl (fun qh10 => ?_) (fun qh10 => ?_)
   ·try have soh10 := szR_ok qh10 (by omega)
    try have sbh10 := szR_b qh10 (by omega) (by first | assumption | omega)
    try have snh10 := szR_no qh10
    refine WC.rr tbk hs8 [] rfl trivial ?_
    refine WC.ret ?_
    refine tkR ?_
    clear hK9
    refine retV1 rfl (resV.tmp rfl) ?_
    refine ⟨congrArg Ending.returned ?_, hs8.nil⟩
    simp only [totGrid, totPane, totScr, totTerm, totVp, GridR.dat, PaneR.dat, ScrR.dat, TermR.dat, VpR.dat] at *; first | (rw [szR_lt (by omega)]; done) | (refine congrArg (Value.int _) ?_; symm; refine (szR_le ?_).trans ?_ <;> omega) | rfl
   ·try have soh10 := szR_ok qh10 (by omega)
    try have sbh10 := szR_b qh10 (by omega) (by first | assumption | omega)
    try have snh10 := szR_no qh10
    refine WC.skip ?_
    refine hK9 _ _ ?_
    refine WC.rr tbk hs8 [] rfl trivial ?_
    refine WC.ret ?_
    refine retV1 rfl (resV.tmp rfl) ?_
    refine ⟨congrArg Ending.returned ?_, hs8.nil⟩
    simp only [totGrid, totPane, totScr, totTerm, totVp, GridR.dat, PaneR.dat, ScrR.dat, TermR.dat, VpR.dat] at *; first | (rw [szR_lt (by omega)]; done) | (refine congrArg (Value.int _) ?_; symm; refine (szR_le ?_).trans ?_ <;> omega) | rfl
set_option maxHeartbeats 4000000 in
theorem c_laws_toPane (a : PaneR) (w : World) (f_a : okPaneR 549755813888 w a) :
    Calls Try.prog 10 #[.agg #[i64 a.Id, .string a.Cmd, .string a.Dir, i64 a.Life, i64 a.Code, i64 a.Pid, i64 a.Term.P.State, .bool a.Term.P.Mark, .slice a.Term.P.Args.A a.Term.P.Args.n a.Term.P.Args.c, .slice a.Term.P.Part.A a.Term.P.Part.n a.Term.P.Part.c, i64 a.Term.S.W, i64 a.Term.S.H, i64 a.Term.S.Main.W, i64 a.Term.S.Main.H, .slice a.Term.S.Main.Cells.A a.Term.S.Main.Cells.n a.Term.S.Main.Cells.c, i64 a.Term.S.Alt.W, i64 a.Term.S.Alt.H, .slice a.Term.S.Alt.Cells.A a.Term.S.Alt.Cells.n a.Term.S.Alt.Cells.c, .bool a.Term.S.OnAlt, i64 a.Term.S.X, i64 a.Term.S.Y, .bool a.Term.S.Wrap, i64 a.Term.S.A.Fg, i64 a.Term.S.A.Bg, .bool a.Term.S.A.Bold, .bool a.Term.S.A.Under, .bool a.Term.S.A.Turn, i64 a.Term.S.Top, i64 a.Term.S.Bot, .bool a.Term.S.NoWrap, .bool a.Term.S.Hide, i64 a.Term.S.SaveX, i64 a.Term.S.SaveY, i64 a.Term.S.SaveA.Fg, i64 a.Term.S.SaveA.Bg, .bool a.Term.S.SaveA.Bold, .bool a.Term.S.SaveA.Under, .bool a.Term.S.SaveA.Turn, .slice a.Term.S.Tabs.A a.Term.S.Tabs.n a.Term.S.Tabs.c, i64 a.Term.S.Limit, .slice a.Term.S.Back.A a.Term.S.Back.n a.Term.S.Back.c]] w fun e w' => ∃ r L1, e = .returned (.agg #[i64 r.Id, .string r.Cmd, .string r.Dir, i64 r.Life, i64 r.Code, i64 r.Pid, i64 r.Term.P.State, .bool r.Term.P.Mark, .slice r.Term.P.Args.A r.Term.P.Args.n r.Term.P.Args.c, .slice r.Term.P.Part.A r.Term.P.Part.n r.Term.P.Part.c, i64 r.Term.S.W, i64 r.Term.S.H, i64 r.Term.S.Main.W, i64 r.Term.S.Main.H, .slice r.Term.S.Main.Cells.A r.Term.S.Main.Cells.n r.Term.S.Main.Cells.c, i64 r.Term.S.Alt.W, i64 r.Term.S.Alt.H, .slice r.Term.S.Alt.Cells.A r.Term.S.Alt.Cells.n r.Term.S.Alt.Cells.c, .bool r.Term.S.OnAlt, i64 r.Term.S.X, i64 r.Term.S.Y, .bool r.Term.S.Wrap, i64 r.Term.S.A.Fg, i64 r.Term.S.A.Bg, .bool r.Term.S.A.Bold, .bool r.Term.S.A.Under, .bool r.Term.S.A.Turn, i64 r.Term.S.Top, i64 r.Term.S.Bot, .bool r.Term.S.NoWrap, .bool r.Term.S.Hide, i64 r.Term.S.SaveX, i64 r.Term.S.SaveY, i64 r.Term.S.SaveA.Fg, i64 r.Term.S.SaveA.Bg, .bool r.Term.S.SaveA.Bold, .bool r.Term.S.SaveA.Under, .bool r.Term.S.SaveA.Turn, .slice r.Term.S.Tabs.A r.Term.S.Tabs.n r.Term.S.Tabs.c, i64 r.Term.S.Limit, .slice r.Term.S.Back.A r.Term.S.Back.n r.Term.S.Back.c]) ∧ St w [] L1 w' ∧ ownPaneR r L1 ∧ r.dat = a.dat := by
 have nz_a_Cmd := f_a.Cmd_z
 have nz_a_Dir := f_a.Dir_z
 have nb_a_Term_P_Args := f_a.Term.P.Args_n
 have nl_a_Term_P_Args := f_a.Term.P.Args.len
 have nb_a_Term_P_Part := f_a.Term.P.Part_n
 have nl_a_Term_P_Part := f_a.Term.P.Part.len
 have nb_a_Term_S_Main_Cells := f_a.Term.S.Main.Cells_n
 have nl_a_Term_S_Main_Cells := f_a.Term.S.Main.Cells.len
 have nb_a_Term_S_Alt_Cells := f_a.Term.S.Alt.Cells_n
 have nl_a_Term_S_Alt_Cells := f_a.Term.S.Alt.Cells.len
 have nb_a_Term_S_Tabs := f_a.Term.S.Tabs_n
 have nl_a_Term_S_Tabs := f_a.Term.S.Tabs.len
 have nb_a_Term_S_Back := f_a.Term.S.Back_n
 have nl_a_Term_S_Back := f_a.Term.S.Back.sl.len
 refine enter (vs := [.agg #[i64 a.Id, .string a.Cmd, .string a.Dir, i64 a.Life, i64 a.Code, i64 a.Pid, i64 a.Term.P.State, .bool a.Term.P.Mark, .slice a.Term.P.Args.A a.Term.P.Args.n a.Term.P.Args.c, .slice a.Term.P.Part.A a.Term.P.Part.n a.Term.P.Part.c, i64 a.Term.S.W, i64 a.Term.S.H, i64 a.Term.S.Main.W, i64 a.Term.S.Main.H, .slice a.Term.S.Main.Cells.A a.Term.S.Main.Cells.n a.Term.S.Main.Cells.c, i64 a.Term.S.Alt.W, i64 a.Term.S.Alt.H, .slice a.Term.S.Alt.Cells.A a.Term.S.Alt.Cells.n a.Term.S.Alt.Cells.c, .bool a.Term.S.OnAlt, i64 a.Term.S.X, i64 a.Term.S.Y, .bool a.Term.S.Wrap, i64 a.Term.S.A.Fg, i64 a.Term.S.A.Bg, .bool a.Term.S.A.Bold, .bool a.Term.S.A.Under, .bool a.Term.S.A.Turn, i64 a.Term.S.Top, i64 a.Term.S.Bot, .bool a.Term.S.NoWrap, .bool a.Term.S.Hide, i64 a.Term.S.SaveX, i64 a.Term.S.SaveY, i64 a.Term.S.SaveA.Fg, i64 a.Term.S.SaveA.Bg, .bool a.Term.S.SaveA.Bold, .bool a.Term.S.SaveA.Under, .bool a.Term.S.SaveA.Turn, .slice a.Term.S.Tabs.A a.Term.S.Tabs.n a.Term.S.Tabs.c, i64 a.Term.S.Limit, .slice a.Term.S.Back.A a.Term.S.Back.n a.Term.S.Back.c]]) 27 Try.func10 rfl Try.ntmps10 rfl rfl ?_
 have hs1 := St.init w
 refine WC.sr ?_
 refine WL.bx hs1 rfl (fun b2 _ hs3 => ?_)
 refine WL.al hs3 Try.zeroValue51 rfl rfl (fun b4 _ hs5 => ?_)
 refine WL.nil ?_
 refine WC.sr ?_
 refine WL.al hs5 Try.zeroValue51 rfl rfl (fun b6 _ hs7 => ?_)
 refine WL.nil ?_
 refine WC.sr ?_
 refine WL.run tbk 3 hs7 [2] rfl ⟨rfl, trivial⟩ ?_
 refine WL.st tbk hs7 0 rfl rfl (fun _ hs8 => ?_)
 refine WL.nil ?_
 refine WC.sr ?_
 refine WL.run tbk 3 hs8 [2] rfl ⟨rfl, trivial⟩ ?_
 refine WL.st tbk hs8 0 rfl rfl (fun _ hs9 => ?_)
 refine WL.nil ?_
 refine WC.sr ?_
 refine WL.run tbk 3 hs9 [2] rfl ⟨rfl, trivial⟩ ?_
 refine WL.st tbk hs9 0 rfl rfl (fun _ hs10 => ?_)
 refine WL.nil ?_
 refine WC.sr ?_
 refine WL.run tbk 3 hs10 [2] rfl ⟨rfl, trivial⟩ ?_
 refine WL.st tbk hs10 0 rfl rfl (fun _ hs11 => ?_)
 refine WL.nil ?_
 refine WC.sr ?_
 refine WL.run tbk 3 hs11 [2] rfl ⟨rfl, trivial⟩ ?_
 refine WL.st tbk hs11 0 rfl rfl (fun _ hs12 => ?_)
 refine WL.nil ?_
 refine WC.sr ?_
 refine WL.run tbk 3 hs12 [2] rfl ⟨rfl, trivial⟩ ?_
 refine WL.st tbk hs12 0 rfl rfl (fun _ hs13 => ?_)
 refine WL.nil ?_
 refine WC.sr ?_
 refine WL.run tbk 2 hs13 [2] rfl ⟨rfl, trivial⟩ ?_
 refine WL.call rfl rfl rfl (Run.call Try.call26 rfl rfl rfl) (c_laws_toTerm a.Term _ (okTermR.st0 f_a.Term hs13)) ?_
 rintro _ whs14 ⟨r15, L116, rfl, hs14, ho17, hd18⟩
 replace hs14 := hs13.callF hs14
 refine ⟨_, rfl, ?_⟩
 replace hs14 := St.back [_, _, _] hs14
 refine WL.run tbk 1 hs14 [] rfl trivial ?_
 refine WL.st tbk hs14 0 rfl rfl (fun _ hs19 => ?_)
 refine WL.nil ?_
 refine WC.sr ?_
 refine WL.run tbk 1 hs19 [0] rfl ⟨rfl, trivial⟩ ?_
 refine WL.st tbk hs19 1 rfl rfl (fun _ hs20 => ?_)
 refine WL.nil ?_
 refine WC.ret ?_
 refine retV1 rfl (resV.cellA tbk hs20 1 rfl rfl rfl rfl) ?_
 obtain ⟨L21, L22, L23, L24, L25, L26, hs33, ho27, ho28, ho29, ho30, ho31, ho32⟩ := ownTermR.open_ (St.perm hs20 (L' := L116 ++ _) (perm_front (A := [_, _, _]) (List.Perm.refl _))) ho17
 have hs34 := (St.perm (St.perm (St.perm hs33 (L' := [_] ++ _) (perm_front (A := L21) (perm_front (A := L22) (perm_front (A := L23) (perm_front (A := L24) (perm_front (A := L25) (perm_front (A := L26) (perm_front (A := [_, _]) (List.Perm.refl _))))))))) (L' := [_] ++ _) (perm_front (A := [_]) (perm_front (A := L21) (perm_front (A := L22) (perm_front (A := L23) (perm_front (A := L24) (perm_front (A := L25) (perm_front (A := L26) (perm_front (A := [_]) (List.Perm.refl _)))))))))) (L' := [_] ++ _) (perm_front (A := [_, _]) (perm_front (A := L21) (perm_front (A := L22) (perm_front (A := L23) (perm_front (A := L24) (perm_front (A := L25) (perm_front (A := L26) (List.Perm.refl _)))))))))
 obtain ⟨L36, hs35, ho37⟩ := ownPaneR.fold ⟨0, { data := #[] }, { data := #[] }, 0, 0, 0, ⟨⟨0, false, ⟨_, _, _, _⟩, ⟨_, _, _, _⟩⟩, ⟨0, 0, ⟨0, 0, ⟨_, _, _, _⟩⟩, ⟨0, 0, ⟨_, _, _, _⟩⟩, false, 0, 0, false, ⟨0, 0, false, false, false⟩, 0, 0, false, false, 0, 0, ⟨0, 0, false, false, false⟩, ⟨_, _, _, _⟩, 0, ⟨_, _, _, _⟩⟩⟩⟩ (St.perm (St.perm (St.perm (St.perm (St.perm (St.perm hs34 (L' := L26 ++ _) (perm_front (A := [_, _, _]) (perm_front (A := L21) (perm_front (A := L22) (perm_front (A := L23) (perm_front (A := L24) (perm_front (A := L25) (List.Perm.refl _)))))))) (L' := L25 ++ _) (perm_front (A := L26) (perm_front (A := [_, _, _]) (perm_front (A := L21) (perm_front (A := L22) (perm_front (A := L23) (perm_front (A := L24) (List.Perm.refl _)))))))) (L' := L24 ++ _) (perm_front (A := L25) (perm_front (A := L26) (perm_front (A := [_, _, _]) (perm_front (A := L21) (perm_front (A := L22) (perm_front (A := L23) (List.Perm.refl _)))))))) (L' := L23 ++ _) (perm_front (A := L24) (perm_front (A := L25) (perm_front (A := L26) (perm_front (A := [_, _, _]) (perm_front (A := L21) (perm_front (A := L22) (List.Perm.refl _)))))))) (L' := L22 ++ _) (perm_front (A := L23) (perm_front (A := L24) (perm_front (A := L25) (perm_front (A := L26) (perm_front (A := [_, _, _]) (perm_front (A := L21) (List.Perm.refl _)))))))) (L' := L21 ++ _) (perm_front (A := L22) (perm_front (A := L23) (perm_front (A := L24) (perm_front (A := L25) (perm_front (A := L26) (perm_front (A := [_, _, _]) (List.Perm.refl _)))))))) ho27 ho28 ho29 ho30 ho31 ho32
 have hs38 := (St.perm (St.perm (St.perm hs35 (L' := [_] ++ _) (perm_front (A := L36) (perm_front (A := [_, _]) (List.Perm.refl _)))) (L' := [_] ++ _) (perm_front (A := [_]) (perm_front (A := L36) (perm_front (A := [_]) (List.Perm.refl _))))) (L' := [_] ++ _) (perm_front (A := [_, _]) (perm_front (A := L36) (List.Perm.refl _))))
 refine ⟨⟨a.Id, a.Cmd, a.Dir, a.Life, a.Code, a.Pid, ⟨⟨r15.P.State, r15.P.Mark, SlD.of ho27, SlD.of ho28⟩, ⟨r15.S.W, r15.S.H, ⟨r15.S.Main.W, r15.S.Main.H, SlD.of ho29⟩, ⟨r15.S.Alt.W, r15.S.Alt.H, SlD.of ho30⟩, r15.S.OnAlt, r15.S.X, r15.S.Y, r15.S.Wrap, ⟨r15.S.A.Fg, r15.S.A.Bg, r15.S.A.Bold, r15.S.A.Under, r15.S.A.Turn⟩, r15.S.Top, r15.S.Bot, r15.S.NoWrap, r15.S.Hide, r15.S.SaveX, r15.S.SaveY, ⟨r15.S.SaveA.Fg, r15.S.SaveA.Bg, r15.S.SaveA.Bold, r15.S.SaveA.Under, r15.S.SaveA.Turn⟩, SlD.of ho31, r15.S.Limit, SlD.ofN ho32⟩⟩⟩, _, rfl, (St.keep1 (St.perm hs38 (L' := L36 ++ _) (perm_front (A := [_, _, _]) (List.Perm.refl _)))), ?_, ?_⟩
 · exact (by exact ho37)
 · exact PaneD.ext' rfl rfl rfl rfl rfl rfl hd18
set_option maxHeartbeats 4000000 in
theorem c_laws_eqPane (a : PaneR) (b : PaneR) (w : World) (f_a : okPaneR 549755813888 w a) (f_b : okPaneR 549755813888 w b) (hab : a.dat = b.dat) :
    Calls Try.prog 12 #[.agg #[i64 a.Id, .string a.Cmd, .string a.Dir, i64 a.Life, i64 a.Code, i64 a.Pid, i64 a.Term.P.State, .bool a.Term.P.Mark, .slice a.Term.P.Args.A a.Term.P.Args.n a.Term.P.Args.c, .slice a.Term.P.Part.A a.Term.P.Part.n a.Term.P.Part.c, i64 a.Term.S.W, i64 a.Term.S.H, i64 a.Term.S.Main.W, i64 a.Term.S.Main.H, .slice a.Term.S.Main.Cells.A a.Term.S.Main.Cells.n a.Term.S.Main.Cells.c, i64 a.Term.S.Alt.W, i64 a.Term.S.Alt.H, .slice a.Term.S.Alt.Cells.A a.Term.S.Alt.Cells.n a.Term.S.Alt.Cells.c, .bool a.Term.S.OnAlt, i64 a.Term.S.X, i64 a.Term.S.Y, .bool a.Term.S.Wrap, i64 a.Term.S.A.Fg, i64 a.Term.S.A.Bg, .bool a.Term.S.A.Bold, .bool a.Term.S.A.Under, .bool a.Term.S.A.Turn, i64 a.Term.S.Top, i64 a.Term.S.Bot, .bool a.Term.S.NoWrap, .bool a.Term.S.Hide, i64 a.Term.S.SaveX, i64 a.Term.S.SaveY, i64 a.Term.S.SaveA.Fg, i64 a.Term.S.SaveA.Bg, .bool a.Term.S.SaveA.Bold, .bool a.Term.S.SaveA.Under, .bool a.Term.S.SaveA.Turn, .slice a.Term.S.Tabs.A a.Term.S.Tabs.n a.Term.S.Tabs.c, i64 a.Term.S.Limit, .slice a.Term.S.Back.A a.Term.S.Back.n a.Term.S.Back.c], .agg #[i64 b.Id, .string b.Cmd, .string b.Dir, i64 b.Life, i64 b.Code, i64 b.Pid, i64 b.Term.P.State, .bool b.Term.P.Mark, .slice b.Term.P.Args.A b.Term.P.Args.n b.Term.P.Args.c, .slice b.Term.P.Part.A b.Term.P.Part.n b.Term.P.Part.c, i64 b.Term.S.W, i64 b.Term.S.H, i64 b.Term.S.Main.W, i64 b.Term.S.Main.H, .slice b.Term.S.Main.Cells.A b.Term.S.Main.Cells.n b.Term.S.Main.Cells.c, i64 b.Term.S.Alt.W, i64 b.Term.S.Alt.H, .slice b.Term.S.Alt.Cells.A b.Term.S.Alt.Cells.n b.Term.S.Alt.Cells.c, .bool b.Term.S.OnAlt, i64 b.Term.S.X, i64 b.Term.S.Y, .bool b.Term.S.Wrap, i64 b.Term.S.A.Fg, i64 b.Term.S.A.Bg, .bool b.Term.S.A.Bold, .bool b.Term.S.A.Under, .bool b.Term.S.A.Turn, i64 b.Term.S.Top, i64 b.Term.S.Bot, .bool b.Term.S.NoWrap, .bool b.Term.S.Hide, i64 b.Term.S.SaveX, i64 b.Term.S.SaveY, i64 b.Term.S.SaveA.Fg, i64 b.Term.S.SaveA.Bg, .bool b.Term.S.SaveA.Bold, .bool b.Term.S.SaveA.Under, .bool b.Term.S.SaveA.Turn, .slice b.Term.S.Tabs.A b.Term.S.Tabs.n b.Term.S.Tabs.c, i64 b.Term.S.Limit, .slice b.Term.S.Back.A b.Term.S.Back.n b.Term.S.Back.c]] w fun e w' => e = .returned (.bool true) ∧ St w [] [] w' := by
 have nz_a_Cmd := f_a.Cmd_z
 have nz_a_Dir := f_a.Dir_z
 have nb_a_Term_P_Args := f_a.Term.P.Args_n
 have nl_a_Term_P_Args := f_a.Term.P.Args.len
 have nb_a_Term_P_Part := f_a.Term.P.Part_n
 have nl_a_Term_P_Part := f_a.Term.P.Part.len
 have nb_a_Term_S_Main_Cells := f_a.Term.S.Main.Cells_n
 have nl_a_Term_S_Main_Cells := f_a.Term.S.Main.Cells.len
 have nb_a_Term_S_Alt_Cells := f_a.Term.S.Alt.Cells_n
 have nl_a_Term_S_Alt_Cells := f_a.Term.S.Alt.Cells.len
 have nb_a_Term_S_Tabs := f_a.Term.S.Tabs_n
 have nl_a_Term_S_Tabs := f_a.Term.S.Tabs.len
 have nb_a_Term_S_Back := f_a.Term.S.Back_n
 have nl_a_Term_S_Back := f_a.Term.S.Back.sl.len
 have nz_b_Cmd := f_b.Cmd_z
 have nz_b_Dir := f_b.Dir_z
 have nb_b_Term_P_Args := f_b.Term.P.Args_n
 have nl_b_Term_P_Args := f_b.Term.P.Args.len
 have nb_b_Term_P_Part := f_b.Term.P.Part_n
 have nl_b_Term_P_Part := f_b.Term.P.Part.len
 have nb_b_Term_S_Main_Cells := f_b.Term.S.Main.Cells_n
 have nl_b_Term_S_Main_Cells := f_b.Term.S.Main.Cells.len
 have nb_b_Term_S_Alt_Cells := f_b.Term.S.Alt.Cells_n
 have nl_b_Term_S_Alt_Cells := f_b.Term.S.Alt.Cells.len
 have nb_b_Term_S_Tabs := f_b.Term.S.Tabs_n
 have nl_b_Term_S_Tabs := f_b.Term.S.Tabs.len
 have nb_b_Term_S_Back := f_b.Term.S.Back_n
 have nl_b_Term_S_Back := f_b.Term.S.Back.sl.len
 have e_Id : a.Id = b.Id := congrArg (fun d : PaneD => d.Id) hab
 have e_Cmd : a.Cmd = b.Cmd := congrArg (fun d : PaneD => d.Cmd) hab
 have e_Dir : a.Dir = b.Dir := congrArg (fun d : PaneD => d.Dir) hab
 have e_Life : a.Life = b.Life := congrArg (fun d : PaneD => d.Life) hab
 have e_Code : a.Code = b.Code := congrArg (fun d : PaneD => d.Code) hab
 have e_Pid : a.Pid = b.Pid := congrArg (fun d : PaneD => d.Pid) hab
 have e_Term : a.Term.dat = b.Term.dat := congrArg (fun d : PaneD => d.Term) hab
 have e_Term_P : a.Term.P.dat = b.Term.P.dat := congrArg (fun d : PaneD => d.Term.P) hab
 have e_Term_P_State : a.Term.P.State = b.Term.P.State := congrArg (fun d : PaneD => d.Term.P.State) hab
 have e_Term_P_Mark : a.Term.P.Mark = b.Term.P.Mark := congrArg (fun d : PaneD => d.Term.P.Mark) hab
 have e_Term_P_Args : a.Term.P.Args.xs = b.Term.P.Args.xs := congrArg (fun d : PaneD => d.Term.P.Args) hab
 have e_Term_P_Part : a.Term.P.Part.xs = b.Term.P.Part.xs := congrArg (fun d : PaneD => d.Term.P.Part) hab
 have e_Term_S : a.Term.S.dat = b.Term.S.dat := congrArg (fun d : PaneD => d.Term.S) hab
 have e_Term_S_W : a.Term.S.W = b.Term.S.W := congrArg (fun d : PaneD => d.Term.S.W) hab
 have e_Term_S_H : a.Term.S.H = b.Term.S.H := congrArg (fun d : PaneD => d.Term.S.H) hab
 have e_Term_S_Main : a.Term.S.Main.dat = b.Term.S.Main.dat := congrArg (fun d : PaneD => d.Term.S.Main) hab
 have e_Term_S_Main_W : a.Term.S.Main.W = b.Term.S.Main.W := congrArg (fun d : PaneD => d.Term.S.Main.W) hab
 have e_Term_S_Main_H : a.Term.S.Main.H = b.Term.S.Main.H := congrArg (fun d : PaneD => d.Term.S.Main.H) hab
 have e_Term_S_Main_Cells : a.Term.S.Main.Cells.xs = b.Term.S.Main.Cells.xs := congrArg (fun d : PaneD => d.Term.S.Main.Cells) hab
 have e_Term_S_Alt : a.Term.S.Alt.dat = b.Term.S.Alt.dat := congrArg (fun d : PaneD => d.Term.S.Alt) hab
 have e_Term_S_Alt_W : a.Term.S.Alt.W = b.Term.S.Alt.W := congrArg (fun d : PaneD => d.Term.S.Alt.W) hab
 have e_Term_S_Alt_H : a.Term.S.Alt.H = b.Term.S.Alt.H := congrArg (fun d : PaneD => d.Term.S.Alt.H) hab
 have e_Term_S_Alt_Cells : a.Term.S.Alt.Cells.xs = b.Term.S.Alt.Cells.xs := congrArg (fun d : PaneD => d.Term.S.Alt.Cells) hab
 have e_Term_S_OnAlt : a.Term.S.OnAlt = b.Term.S.OnAlt := congrArg (fun d : PaneD => d.Term.S.OnAlt) hab
 have e_Term_S_X : a.Term.S.X = b.Term.S.X := congrArg (fun d : PaneD => d.Term.S.X) hab
 have e_Term_S_Y : a.Term.S.Y = b.Term.S.Y := congrArg (fun d : PaneD => d.Term.S.Y) hab
 have e_Term_S_Wrap : a.Term.S.Wrap = b.Term.S.Wrap := congrArg (fun d : PaneD => d.Term.S.Wrap) hab
 have e_Term_S_A : a.Term.S.A = b.Term.S.A := congrArg (fun d : PaneD => d.Term.S.A) hab
 have e_Term_S_A_Fg : a.Term.S.A.Fg = b.Term.S.A.Fg := congrArg (fun d : PaneD => d.Term.S.A.Fg) hab
 have e_Term_S_A_Bg : a.Term.S.A.Bg = b.Term.S.A.Bg := congrArg (fun d : PaneD => d.Term.S.A.Bg) hab
 have e_Term_S_A_Bold : a.Term.S.A.Bold = b.Term.S.A.Bold := congrArg (fun d : PaneD => d.Term.S.A.Bold) hab
 have e_Term_S_A_Under : a.Term.S.A.Under = b.Term.S.A.Under := congrArg (fun d : PaneD => d.Term.S.A.Under) hab
 have e_Term_S_A_Turn : a.Term.S.A.Turn = b.Term.S.A.Turn := congrArg (fun d : PaneD => d.Term.S.A.Turn) hab
 have e_Term_S_Top : a.Term.S.Top = b.Term.S.Top := congrArg (fun d : PaneD => d.Term.S.Top) hab
 have e_Term_S_Bot : a.Term.S.Bot = b.Term.S.Bot := congrArg (fun d : PaneD => d.Term.S.Bot) hab
 have e_Term_S_NoWrap : a.Term.S.NoWrap = b.Term.S.NoWrap := congrArg (fun d : PaneD => d.Term.S.NoWrap) hab
 have e_Term_S_Hide : a.Term.S.Hide = b.Term.S.Hide := congrArg (fun d : PaneD => d.Term.S.Hide) hab
 have e_Term_S_SaveX : a.Term.S.SaveX = b.Term.S.SaveX := congrArg (fun d : PaneD => d.Term.S.SaveX) hab
 have e_Term_S_SaveY : a.Term.S.SaveY = b.Term.S.SaveY := congrArg (fun d : PaneD => d.Term.S.SaveY) hab
 have e_Term_S_SaveA : a.Term.S.SaveA = b.Term.S.SaveA := congrArg (fun d : PaneD => d.Term.S.SaveA) hab
 have e_Term_S_SaveA_Fg : a.Term.S.SaveA.Fg = b.Term.S.SaveA.Fg := congrArg (fun d : PaneD => d.Term.S.SaveA.Fg) hab
 have e_Term_S_SaveA_Bg : a.Term.S.SaveA.Bg = b.Term.S.SaveA.Bg := congrArg (fun d : PaneD => d.Term.S.SaveA.Bg) hab
 have e_Term_S_SaveA_Bold : a.Term.S.SaveA.Bold = b.Term.S.SaveA.Bold := congrArg (fun d : PaneD => d.Term.S.SaveA.Bold) hab
 have e_Term_S_SaveA_Under : a.Term.S.SaveA.Under = b.Term.S.SaveA.Under := congrArg (fun d : PaneD => d.Term.S.SaveA.Under) hab
 have e_Term_S_SaveA_Turn : a.Term.S.SaveA.Turn = b.Term.S.SaveA.Turn := congrArg (fun d : PaneD => d.Term.S.SaveA.Turn) hab
 have e_Term_S_Tabs : a.Term.S.Tabs.xs = b.Term.S.Tabs.xs := congrArg (fun d : PaneD => d.Term.S.Tabs) hab
 have e_Term_S_Limit : a.Term.S.Limit = b.Term.S.Limit := congrArg (fun d : PaneD => d.Term.S.Limit) hab
 have e_Term_S_Back : a.Term.S.Back.xs.map RowR.dat = b.Term.S.Back.xs.map RowR.dat := congrArg (fun d : PaneD => d.Term.S.Back) hab
 refine enter (vs := [.agg #[i64 a.Id, .string a.Cmd, .string a.Dir, i64 a.Life, i64 a.Code, i64 a.Pid, i64 a.Term.P.State, .bool a.Term.P.Mark, .slice a.Term.P.Args.A a.Term.P.Args.n a.Term.P.Args.c, .slice a.Term.P.Part.A a.Term.P.Part.n a.Term.P.Part.c, i64 a.Term.S.W, i64 a.Term.S.H, i64 a.Term.S.Main.W, i64 a.Term.S.Main.H, .slice a.Term.S.Main.Cells.A a.Term.S.Main.Cells.n a.Term.S.Main.Cells.c, i64 a.Term.S.Alt.W, i64 a.Term.S.Alt.H, .slice a.Term.S.Alt.Cells.A a.Term.S.Alt.Cells.n a.Term.S.Alt.Cells.c, .bool a.Term.S.OnAlt, i64 a.Term.S.X, i64 a.Term.S.Y, .bool a.Term.S.Wrap, i64 a.Term.S.A.Fg, i64 a.Term.S.A.Bg, .bool a.Term.S.A.Bold, .bool a.Term.S.A.Under, .bool a.Term.S.A.Turn, i64 a.Term.S.Top, i64 a.Term.S.Bot, .bool a.Term.S.NoWrap, .bool a.Term.S.Hide, i64 a.Term.S.SaveX, i64 a.Term.S.SaveY, i64 a.Term.S.SaveA.Fg, i64 a.Term.S.SaveA.Bg, .bool a.Term.S.SaveA.Bold, .bool a.Term.S.SaveA.Under, .bool a.Term.S.SaveA.Turn, .slice a.Term.S.Tabs.A a.Term.S.Tabs.n a.Term.S.Tabs.c, i64 a.Term.S.Limit, .slice a.Term.S.Back.A a.Term.S.Back.n a.Term.S.Back.c], .agg #[i64 b.Id, .string b.Cmd, .string b.Dir, i64 b.Life, i64 b.Code, i64 b.Pid, i64 b.Term.P.State, .bool b.Term.P.Mark, .slice b.Term.P.Args.A b.Term.P.Args.n b.Term.P.Args.c, .slice b.Term.P.Part.A b.Term.P.Part.n b.Term.P.Part.c, i64 b.Term.S.W, i64 b.Term.S.H, i64 b.Term.S.Main.W, i64 b.Term.S.Main.H, .slice b.Term.S.Main.Cells.A b.Term.S.Main.Cells.n b.Term.S.Main.Cells.c, i64 b.Term.S.Alt.W, i64 b.Term.S.Alt.H, .slice b.Term.S.Alt.Cells.A b.Term.S.Alt.Cells.n b.Term.S.Alt.Cells.c, .bool b.Term.S.OnAlt, i64 b.Term.S.X, i64 b.Term.S.Y, .bool b.Term.S.Wrap, i64 b.Term.S.A.Fg, i64 b.Term.S.A.Bg, .bool b.Term.S.A.Bold, .bool b.Term.S.A.Under, .bool b.Term.S.A.Turn, i64 b.Term.S.Top, i64 b.Term.S.Bot, .bool b.Term.S.NoWrap, .bool b.Term.S.Hide, i64 b.Term.S.SaveX, i64 b.Term.S.SaveY, i64 b.Term.S.SaveA.Fg, i64 b.Term.S.SaveA.Bg, .bool b.Term.S.SaveA.Bold, .bool b.Term.S.SaveA.Under, .bool b.Term.S.SaveA.Turn, .slice b.Term.S.Tabs.A b.Term.S.Tabs.n b.Term.S.Tabs.c, i64 b.Term.S.Limit, .slice b.Term.S.Back.A b.Term.S.Back.n b.Term.S.Back.c]]) 41 Try.func12 rfl Try.ntmps12 rfl rfl ?_
 have hs1 := St.init w
 refine WC.sr ?_
 refine WL.bx hs1 rfl (fun b2 _ hs3 => ?_)
 refine WL.bx hs3 rfl (fun b4 _ hs5 => ?_)
 refine WL.run tbk 1 hs5 [] rfl trivial ?_
 refine WL.nil ?_
 refine WC.seq (fun K6 hK6 => ?_)
 refine WC.rr tbk hs5 [1, 0] rfl ⟨rfl, rfl, trivial⟩ ?_
 refine WC.condF rfl (by simp [e_Id, e_Cmd, e_Dir, e_Life, e_Code, e_Pid, e_Term_P_State, e_Term_P_Mark, e_Term_S_W, e_Term_S_H, e_Term_S_Main_W, e_Term_S_Main_H, e_Term_S_Alt_W, e_Term_S_Alt_H, e_Term_S_OnAlt, e_Term_S_X, e_Term_S_Y, e_Term_S_Wrap, e_Term_S_A_Fg, e_Term_S_A_Bg, e_Term_S_A_Bold, e_Term_S_A_Under, e_Term_S_A_Turn, e_Term_S_Top, e_Term_S_Bot, e_Term_S_NoWrap, e_Term_S_Hide, e_Term_S_SaveX, e_Term_S_SaveY, e_Term_S_SaveA_Fg, e_Term_S_SaveA_Bg, e_Term_S_SaveA_Bold, e_Term_S_SaveA_Under, e_Term_S_SaveA_Turn, e_Term_S_Limit]) ?_
 refine WC.skip ?_
 refine hK6 _ _ ?_
 refine WC.seq (fun K8 hK8 => ?_)
 refine WC.rr tbk hs5 [1, 0] rfl ⟨rfl, rfl, trivial⟩ ?_
 refine WC.condF rfl (by simp [e_Id, e_Cmd, e_Dir, e_Life, e_Code, e_Pid, e_Term_P_State, e_Term_P_Mark, e_Term_S_W, e_Term_S_H, e_Term_S_Main_W, e_Term_S_Main_H, e_Term_S_Alt_W, e_Term_S_Alt_H, e_Term_S_OnAlt, e_Term_S_X, e_Term_S_Y, e_Term_S_Wrap, e_Term_S_A_Fg, e_Term_S_A_Bg, e_Term_S_A_Bold, e_Term_S_A_Under, e_Term_S_A_Turn, e_Term_S_Top, e_Term_S_Bot, e_Term_S_NoWrap, e_Term_S_Hide, e_Term_S_SaveX, e_Term_S_SaveY, e_Term_S_SaveA_Fg, e_Term_S_SaveA_Bg, e_Term_S_SaveA_Bold, e_Term_S_SaveA_Under, e_Term_S_SaveA_Turn, e_Term_S_Limit]) ?_
 refine WC.skip ?_
 refine hK8 _ _ ?_
 refine WC.seq (fun K10 hK10 => ?_)
 refine WC.rr tbk hs5 [1, 0] rfl ⟨rfl, rfl, trivial⟩ ?_
 refine WC.condF rfl (by simp [e_Id, e_Cmd, e_Dir, e_Life, e_Code, e_Pid, e_Term_P_State, e_Term_P_Mark, e_Term_S_W, e_Term_S_H, e_Term_S_Main_W, e_Term_S_Main_H, e_Term_S_Alt_W, e_Term_S_Alt_H, e_Term_S_OnAlt, e_Term_S_X, e_Term_S_Y, e_Term_S_Wrap, e_Term_S_A_Fg, e_Term_S_A_Bg, e_Term_S_A_Bold, e_Term_S_A_Under, e_Term_S_A_Turn, e_Term_S_Top, e_Term_S_Bot, e_Term_S_NoWrap, e_Term_S_Hide, e_Term_S_SaveX, e_Term_S_SaveY, e_Term_S_SaveA_Fg, e_Term_S_SaveA_Bg, e_Term_S_SaveA_Bold, e_Term_S_SaveA_Under, e_Term_S_SaveA_Turn, e_Term_S_Limit]) ?_
 refine WC.skip ?_
 refine hK10 _ _ ?_
 refine WC.seq (fun K12 hK12 => ?_)
 refine WC.rr tbk hs5 [1, 0] rfl ⟨rfl, rfl, trivial⟩ ?_
 refine WC.condF rfl (by simp [e_Id, e_Cmd, e_Dir, e_Life, e_Code, e_Pid, e_Term_P_State, e_Term_P_Mark, e_Term_S_W, e_Term_S_H, e_Term_S_Main_W, e_Term_S_Main_H, e_Term_S_Alt_W, e_Term_S_Alt_H, e_Term_S_OnAlt, e_Term_S_X, e_Term_S_Y, e_Term_S_Wrap, e_Term_S_A_Fg, e_Term_S_A_Bg, e_Term_S_A_Bold, e_Term_S_A_Under, e_Term_S_A_Turn, e_Term_S_Top, e_Term_S_Bot, e_Term_S_NoWrap, e_Term_S_Hide, e_Term_S_SaveX, e_Term_S_SaveY, e_Term_S_SaveA_Fg, e_Term_S_SaveA_Bg, e_Term_S_SaveA_Bold, e_Term_S_SaveA_Under, e_Term_S_SaveA_Turn, e_Term_S_Limit]) ?_
 refine WC.skip ?_
 refine hK12 _ _ ?_
 refine WC.seq (fun K14 hK14 => ?_)
 refine WC.rr tbk hs5 [1, 0] rfl ⟨rfl, rfl, trivial⟩ ?_
 refine WC.condF rfl (by simp [e_Id, e_Cmd, e_Dir, e_Life, e_Code, e_Pid, e_Term_P_State, e_Term_P_Mark, e_Term_S_W, e_Term_S_H, e_Term_S_Main_W, e_Term_S_Main_H, e_Term_S_Alt_W, e_Term_S_Alt_H, e_Term_S_OnAlt, e_Term_S_X, e_Term_S_Y, e_Term_S_Wrap, e_Term_S_A_Fg, e_Term_S_A_Bg, e_Term_S_A_Bold, e_Term_S_A_Under, e_Term_S_A_Turn, e_Term_S_Top, e_Term_S_Bot, e_Term_S_NoWrap, e_Term_S_Hide, e_Term_S_SaveX, e_Term_S_SaveY, e_Term_S_SaveA_Fg, e_Term_S_SaveA_Bg, e_Term_S_SaveA_Bold, e_Term_S_SaveA_Under, e_Term_S_SaveA_Turn, e_Term_S_Limit]) ?_
 refine WC.skip ?_
 refine hK14 _ _ ?_
 refine WC.seq (fun K16 hK16 => ?_)
 refine WC.rr tbk hs5 [1, 0] rfl ⟨rfl, rfl, trivial⟩ ?_
 refine WC.condF rfl (by simp [e_Id, e_Cmd, e_Dir, e_Life, e_Code, e_Pid, e_Term_P_State, e_Term_P_Mark, e_Term_S_W, e_Term_S_H, e_Term_S_Main_W, e_Term_S_Main_H, e_Term_S_Alt_W, e_Term_S_Alt_H, e_Term_S_OnAlt, e_Term_S_X, e_Term_S_Y, e_Term_S_Wrap, e_Term_S_A_Fg, e_Term_S_A_Bg, e_Term_S_A_Bold, e_Term_S_A_Under, e_Term_S_A_Turn, e_Term_S_Top, e_Term_S_Bot, e_Term_S_NoWrap, e_Term_S_Hide, e_Term_S_SaveX, e_Term_S_SaveY, e_Term_S_SaveA_Fg, e_Term_S_SaveA_Bg, e_Term_S_SaveA_Bold, e_Term_S_SaveA_Under, e_Term_S_SaveA_Turn, e_Term_S_Limit]) ?_
 refine WC.skip ?_
 refine hK16 _ _ ?_
 refine WC.seq (fun K18 hK18 => ?_)
 refine WC.sr ?_
 refine WL.run tbk 4 hs5 [1, 0] rfl ⟨rfl, rfl, trivial⟩ ?_
 refine WL.call rfl rfl rfl (Run.call Try.call31 rfl rfl rfl) (c_laws_eqTerm a.Term b.Term _ (okTermR.st0 f_a.Term hs5) (okTermR.st0 f_b.Term hs5) ?_) ?_
 · first | assumption | rfl | omega
 rintro _ whs19 ⟨rfl, hs19⟩
 replace hs19 := hs5.call0 hs19
 refine ⟨_, rfl, ?_⟩
 refine WL.run tbk 1 hs19 [] rfl trivial ?_
 refine WL.nil ?_
 refine WC.condF rfl (by simp [e_Id, e_Cmd, e_Dir, e_Life, e_Code, e_Pid, e_Term_P_State, e_Term_P_Mark, e_Term_S_W, e_Term_S_H, e_Term_S_Main_W, e_Term_S_Main_H, e_Term_S_Alt_W, e_Term_S_Alt_H, e_Term_S_OnAlt, e_Term_S_X, e_Term_S_Y, e_Term_S_Wrap, e_Term_S_A_Fg, e_Term_S_A_Bg, e_Term_S_A_Bold, e_Term_S_A_Under, e_Term_S_A_Turn, e_Term_S_Top, e_Term_S_Bot, e_Term_S_NoWrap, e_Term_S_Hide, e_Term_S_SaveX, e_Term_S_SaveY, e_Term_S_SaveA_Fg, e_Term_S_SaveA_Bg, e_Term_S_SaveA_Bold, e_Term_S_SaveA_Under, e_Term_S_SaveA_Turn, e_Term_S_Limit]) ?_
 refine WC.skip ?_
 refine hK18 _ _ ?_
 refine WC.rr tbk hs19 [] rfl trivial ?_
 refine WC.ret ?_
 refine retV1 rfl (resV.tmp rfl) ?_
 refine ⟨congrArg Ending.returned ?_, hs19.nil⟩
 rfl
set_option maxHeartbeats 4000000 in
theorem c_laws_szWin (a : WinR) (left : Int) (w : World) (f_a : okWinR 9223372036854775807 w a) (h1 : 0 ≤ left) (h2 : left ≤ 1048576) :
    Calls Try.prog 60 #[.agg #[i64 a.Id, .string a.Name, .slice a.Tree.A a.Tree.n a.Tree.c, i64 a.Active, .bool a.Zoom], i64 left] w fun e w' => e = .returned (.int .i64 (szR left (totWin a.dat))) ∧ St w [] [] w' := by
 have nz_a_Name := f_a.Name_z
 have nb_a_Tree := f_a.Tree_n
 have nl_a_Tree := f_a.Tree.len
 refine enter (vs := [.agg #[i64 a.Id, .string a.Name, .slice a.Tree.A a.Tree.n a.Tree.c, i64 a.Active, .bool a.Zoom], i64 left]) 19 Try.func60 rfl Try.ntmps60 rfl rfl ?_
 have hs1 := St.init w
 refine WC.sr ?_
 refine WL.bx hs1 rfl (fun b2 _ hs3 => ?_)
 refine WL.run tbk 1 hs3 [] rfl trivial ?_
 refine WL.nil ?_
 refine WC.rr tbk hs3 [0] rfl ⟨by omega, rfl, trivial⟩ ?_
 refine WC.seq (fun K4 hK4 => ?_)
 refine WC.rr tbk hs3 [] rfl trivial ?_
 refine WC.cD rfl (fun qh5 => ?_) (fun qh5 => ?_)
 ·try have soh5 := szR_ok qh5 (by omega)
  try have sbh5 := szR_b qh5 (by omega) (by first | assumption | omega)
  try have snh5 := szR_no qh5
  refine WC.rr tbk hs3 [] rfl trivial ?_
  refine WC.ret ?_
  refine tkR ?_
  clear hK4
  refine retV1 rfl (resV.tmp rfl) ?_
  refine ⟨congrArg Ending.returned ?_, hs3.nil⟩
  simp only [totWin, WinR.dat] at *; first | (rw [szR_lt (by omega)]; done) | (refine congrArg (Value.int _) ?_; symm; refine (szR_le ?_).trans ?_ <;> omega) | rfl
 ·try have soh5 := szR_ok qh5 (by omega)
  try have sbh5 := szR_b qh5 (by omega) (by first | assumption | omega)
  try have snh5 := szR_no qh5
  refine WC.skip ?_
  refine hK4 _ _ ?_
  refine WC.sr ?_
  refine WL.run tbk 3 hs3 [0] rfl ⟨rfl, trivial⟩ ?_
  refine WL.call rfl rfl rfl (Run.call Try.call93 rfl rfl rfl) (c_laws_szNodeS _ _ _ _ _ _ (SlF.st0 f_a.Tree hs3) ?_ ?_ ?_) ?_
  · first | assumption | omega
  · first | assumption | omega | exact szR_b (by assumption) (by omega) (by first | assumption | omega)
  · first | assumption | omega
  rintro _ whs6 ⟨rfl, hs6⟩
  replace hs6 := hs3.call0 hs6
  refine ⟨_, rfl, ?_⟩
  refine WL.run tbk 1 hs6 [] rfl trivial ?_
  refine WL.nil ?_
  refine WC.seq (fun K7 hK7 => ?_)
  refine WC.rr tbk hs6 [] rfl trivial ?_
  refine WC.cD rfl (fun qh8 => ?_) (fun qh8 => ?_)
  ·try have soh8 := szR_ok qh8 (by omega)
   try have sbh8 := szR_b qh8 (by omega) (by first | assumption | omega)
   try have snh8 := szR_no qh8
   refine WC.rr tbk hs6 [] rfl trivial ?_
   refine WC.ret ?_
   refine tkR ?_
   clear hK7
   refine retV1 rfl (resV.tmp rfl) ?_
   refine ⟨congrArg Ending.returned ?_, hs6.nil⟩
   simp only [totWin, WinR.dat] at *; first | (rw [szR_lt (by omega)]; done) | (refine congrArg (Value.int _) ?_; symm; refine (szR_le ?_).trans ?_ <;> omega) | rfl
  ·try have soh8 := szR_ok qh8 (by omega)
   try have sbh8 := szR_b qh8 (by omega) (by first | assumption | omega)
   try have snh8 := szR_no qh8
   refine WC.skip ?_
   refine hK7 _ _ ?_
   refine WC.rr tbk hs6 [] rfl trivial ?_
   refine WC.ret ?_
   refine retV1 rfl (resV.tmp rfl) ?_
   refine ⟨congrArg Ending.returned ?_, hs6.nil⟩
   simp only [totWin, WinR.dat] at *; first | (rw [szR_lt (by omega)]; done) | (refine congrArg (Value.int _) ?_; symm; refine (szR_le ?_).trans ?_ <;> omega) | rfl
set_option maxHeartbeats 4000000 in
theorem c_laws_toWin (a : WinR) (w : World) (f_a : okWinR 549755813888 w a) :
    Calls Try.prog 62 #[.agg #[i64 a.Id, .string a.Name, .slice a.Tree.A a.Tree.n a.Tree.c, i64 a.Active, .bool a.Zoom]] w fun e w' => ∃ r L1, e = .returned (.agg #[i64 r.Id, .string r.Name, .slice r.Tree.A r.Tree.n r.Tree.c, i64 r.Active, .bool r.Zoom]) ∧ St w [] L1 w' ∧ ownWinR r L1 ∧ r.dat = a.dat := by
 have nz_a_Name := f_a.Name_z
 have nb_a_Tree := f_a.Tree_n
 have nl_a_Tree := f_a.Tree.len
 refine enter (vs := [.agg #[i64 a.Id, .string a.Name, .slice a.Tree.A a.Tree.n a.Tree.c, i64 a.Active, .bool a.Zoom]]) 21 Try.func62 rfl Try.ntmps62 rfl rfl ?_
 have hs1 := St.init w
 refine WC.sr ?_
 refine WL.bx hs1 rfl (fun b2 _ hs3 => ?_)
 refine WL.al hs3 Try.zeroValue95 rfl rfl (fun b4 _ hs5 => ?_)
 refine WL.nil ?_
 refine WC.sr ?_
 refine WL.al hs5 Try.zeroValue95 rfl rfl (fun b6 _ hs7 => ?_)
 refine WL.nil ?_
 refine WC.sr ?_
 refine WL.run tbk 3 hs7 [2] rfl ⟨rfl, trivial⟩ ?_
 refine WL.st tbk hs7 0 rfl rfl (fun _ hs8 => ?_)
 refine WL.nil ?_
 refine WC.sr ?_
 refine WL.run tbk 3 hs8 [2] rfl ⟨rfl, trivial⟩ ?_
 refine WL.st tbk hs8 0 rfl rfl (fun _ hs9 => ?_)
 refine WL.nil ?_
 refine WC.sr ?_
 refine WL.run tbk 2 hs9 [2] rfl ⟨rfl, trivial⟩ ?_
 refine WL.call rfl rfl rfl (Run.call Try.call94 rfl rfl rfl) (c_laws_toNodeS _ _ _ _ _ (SlF.st0 f_a.Tree hs9) ?_) ?_
 · first | assumption | rfl | omega
 rintro _ whs10 ⟨A11, c12, L113, rfl, hs10, ho14⟩
 replace hs10 := hs9.callF hs10
 refine ⟨_, rfl, ?_⟩
 replace hs10 := St.back [_, _, _] hs10
 refine WL.run tbk 1 hs10 [] rfl trivial ?_
 refine WL.st tbk hs10 0 rfl rfl (fun _ hs15 => ?_)
 refine WL.nil ?_
 refine WC.sr ?_
 refine WL.run tbk 3 hs15 [2] rfl ⟨rfl, trivial⟩ ?_
 refine WL.st tbk hs15 0 rfl rfl (fun _ hs16 => ?_)
 refine WL.nil ?_
 refine WC.sr ?_
 refine WL.run tbk 3 hs16 [2] rfl ⟨rfl, trivial⟩ ?_
 refine WL.st tbk hs16 0 rfl rfl (fun _ hs17 => ?_)
 refine WL.nil ?_
 refine WC.sr ?_
 refine WL.run tbk 1 hs17 [0] rfl ⟨rfl, trivial⟩ ?_
 refine WL.st tbk hs17 1 rfl rfl (fun _ hs18 => ?_)
 refine WL.nil ?_
 refine WC.ret ?_
 refine retV1 rfl (resV.cellA tbk hs18 1 rfl rfl rfl rfl) ?_
 refine ⟨⟨a.Id, a.Name, SlD.of ho14, a.Active, a.Zoom⟩, _, rfl, (St.keep1 (St.perm hs18 (L' := L113 ++ _) (perm_front (A := [_, _, _]) (List.Perm.refl _)))), ?_, ?_⟩
 · exact ho14
 · exact WinD.ext' rfl rfl rfl rfl rfl
set_option maxHeartbeats 4000000 in
theorem c_laws_eqWin (a : WinR) (b : WinR) (w : World) (f_a : okWinR 549755813888 w a) (f_b : okWinR 549755813888 w b) (hab : a.dat = b.dat) :
    Calls Try.prog 64 #[.agg #[i64 a.Id, .string a.Name, .slice a.Tree.A a.Tree.n a.Tree.c, i64 a.Active, .bool a.Zoom], .agg #[i64 b.Id, .string b.Name, .slice b.Tree.A b.Tree.n b.Tree.c, i64 b.Active, .bool b.Zoom]] w fun e w' => e = .returned (.bool true) ∧ St w [] [] w' := by
 have nz_a_Name := f_a.Name_z
 have nb_a_Tree := f_a.Tree_n
 have nl_a_Tree := f_a.Tree.len
 have nz_b_Name := f_b.Name_z
 have nb_b_Tree := f_b.Tree_n
 have nl_b_Tree := f_b.Tree.len
 have e_Id : a.Id = b.Id := congrArg (fun d : WinD => d.Id) hab
 have e_Name : a.Name = b.Name := congrArg (fun d : WinD => d.Name) hab
 have e_Tree : a.Tree.xs = b.Tree.xs := congrArg (fun d : WinD => d.Tree) hab
 have e_Active : a.Active = b.Active := congrArg (fun d : WinD => d.Active) hab
 have e_Zoom : a.Zoom = b.Zoom := congrArg (fun d : WinD => d.Zoom) hab
 refine enter (vs := [.agg #[i64 a.Id, .string a.Name, .slice a.Tree.A a.Tree.n a.Tree.c, i64 a.Active, .bool a.Zoom], .agg #[i64 b.Id, .string b.Name, .slice b.Tree.A b.Tree.n b.Tree.c, i64 b.Active, .bool b.Zoom]]) 31 Try.func64 rfl Try.ntmps64 rfl rfl ?_
 have hs1 := St.init w
 refine WC.sr ?_
 refine WL.bx hs1 rfl (fun b2 _ hs3 => ?_)
 refine WL.bx hs3 rfl (fun b4 _ hs5 => ?_)
 refine WL.run tbk 1 hs5 [] rfl trivial ?_
 refine WL.nil ?_
 refine WC.seq (fun K6 hK6 => ?_)
 refine WC.rr tbk hs5 [1, 0] rfl ⟨rfl, rfl, trivial⟩ ?_
 refine WC.condF rfl (by simp [e_Id, e_Name, e_Active, e_Zoom]) ?_
 refine WC.skip ?_
 refine hK6 _ _ ?_
 refine WC.seq (fun K8 hK8 => ?_)
 refine WC.rr tbk hs5 [1, 0] rfl ⟨rfl, rfl, trivial⟩ ?_
 refine WC.condF rfl (by simp [e_Id, e_Name, e_Active, e_Zoom]) ?_
 refine WC.skip ?_
 refine hK8 _ _ ?_
 refine WC.seq (fun K10 hK10 => ?_)
 refine WC.sr ?_
 refine WL.run tbk 4 hs5 [1, 0] rfl ⟨rfl, rfl, trivial⟩ ?_
 refine WL.call rfl rfl rfl (Run.call Try.call95 rfl rfl rfl) (c_laws_eqNodeS _ _ _ _ _ _ _ _ _ (SlF.st0 f_a.Tree hs5) (SlF.st0 f_b.Tree hs5) ?_ ?_) ?_
 · first | assumption | rfl | omega
 · first | assumption | rfl | omega
 rintro _ whs11 ⟨rfl, hs11⟩
 replace hs11 := hs5.call0 hs11
 refine ⟨_, rfl, ?_⟩
 refine WL.run tbk 1 hs11 [] rfl trivial ?_
 refine WL.nil ?_
 refine WC.condF rfl (by simp [e_Id, e_Name, e_Active, e_Zoom]) ?_
 refine WC.skip ?_
 refine hK10 _ _ ?_
 refine WC.seq (fun K13 hK13 => ?_)
 refine WC.rr tbk hs11 [1, 0] rfl ⟨rfl, rfl, trivial⟩ ?_
 refine WC.condF rfl (by simp [e_Id, e_Name, e_Active, e_Zoom]) ?_
 refine WC.skip ?_
 refine hK13 _ _ ?_
 refine WC.seq (fun K15 hK15 => ?_)
 refine WC.rr tbk hs11 [1, 0] rfl ⟨rfl, rfl, trivial⟩ ?_
 refine WC.condF rfl (by simp [e_Id, e_Name, e_Active, e_Zoom]) ?_
 refine WC.skip ?_
 refine hK15 _ _ ?_
 refine WC.rr tbk hs11 [] rfl trivial ?_
 refine WC.ret ?_
 refine retV1 rfl (resV.tmp rfl) ?_
 refine ⟨congrArg Ending.returned ?_, hs11.nil⟩
 rfl
set_option maxHeartbeats 4000000 in
theorem c_laws_szSess (a : SessR) (left : Int) (w : World) (f_a : okSessR 9223372036854775807 w a) (h1 : 0 ≤ left) (h2 : left ≤ 1048576) :
    Calls Try.prog 61 #[.agg #[.string a.Name, .slice a.Wins.A a.Wins.n a.Wins.c, i64 a.Active], i64 left] w fun e w' => e = .returned (.int .i64 (szR left (totSess a.dat))) ∧ St w [] [] w' := by
 have nz_a_Name := f_a.Name_z
 have nb_a_Wins := f_a.Wins_n
 have nl_a_Wins := f_a.Wins.len
 refine enter (vs := [.agg #[.string a.Name, .slice a.Wins.A a.Wins.n a.Wins.c, i64 a.Active], i64 left]) 19 Try.func61 rfl Try.ntmps61 rfl rfl ?_
 have hs1 := St.init w
 refine WC.sr ?_
 refine WL.bx hs1 rfl (fun b2 _ hs3 => ?_)
 refine WL.run tbk 1 hs3 [] rfl trivial ?_
 refine WL.nil ?_
 refine WC.rr tbk hs3 [0] rfl ⟨by omega, rfl, trivial⟩ ?_
 refine WC.seq (fun K4 hK4 => ?_)
 refine WC.rr tbk hs3 [] rfl trivial ?_
 refine WC.cD rfl (fun qh5 => ?_) (fun qh5 => ?_)
 ·try have soh5 := szR_ok qh5 (by omega)
  try have sbh5 := szR_b qh5 (by omega) (by first | assumption | omega)
  try have snh5 := szR_no qh5
  refine WC.rr tbk hs3 [] rfl trivial ?_
  refine WC.ret ?_
  refine tkR ?_
  clear hK4
  refine retV1 rfl (resV.tmp rfl) ?_
  refine ⟨congrArg Ending.returned ?_, hs3.nil⟩
  simp only [totSess, SessR.dat] at *; first | (rw [szR_lt (by omega)]; done) | (refine congrArg (Value.int _) ?_; symm; refine (szR_le ?_).trans ?_ <;> omega) | rfl
 ·try have soh5 := szR_ok qh5 (by omega)
  try have sbh5 := szR_b qh5 (by omega) (by first | assumption | omega)
  try have snh5 := szR_no qh5
  refine WC.skip ?_
  refine hK4 _ _ ?_
  refine WC.sr ?_
  refine WL.run tbk 3 hs3 [0] rfl ⟨rfl, trivial⟩ ?_
  refine WL.call rfl rfl rfl (Run.call Try.call67 rfl rfl rfl) (c_laws_szIntS _ _ _ _ _ _ (SlF.st0 f_a.Wins hs3) ?_ ?_ ?_) ?_
  · first | assumption | omega
  · first | assumption | omega | exact szR_b (by assumption) (by omega) (by first | assumption | omega)
  · first | assumption | omega
  rintro _ whs6 ⟨rfl, hs6⟩
  replace hs6 := hs3.call0 hs6
  refine ⟨_, rfl, ?_⟩
  refine WL.run tbk 1 hs6 [] rfl trivial ?_
  refine WL.nil ?_
  refine WC.seq (fun K7 hK7 => ?_)
  refine WC.rr tbk hs6 [] rfl trivial ?_
  refine WC.cD rfl (fun qh8 => ?_) (fun qh8 => ?_)
  ·try have soh8 := szR_ok qh8 (by omega)
   try have sbh8 := szR_b qh8 (by omega) (by first | assumption | omega)
   try have snh8 := szR_no qh8
   refine WC.rr tbk hs6 [] rfl trivial ?_
   refine WC.ret ?_
   refine tkR ?_
   clear hK7
   refine retV1 rfl (resV.tmp rfl) ?_
   refine ⟨congrArg Ending.returned ?_, hs6.nil⟩
   simp only [totSess, SessR.dat] at *; first | (rw [szR_lt (by omega)]; done) | (refine congrArg (Value.int _) ?_; symm; refine (szR_le ?_).trans ?_ <;> omega) | rfl
  ·try have soh8 := szR_ok qh8 (by omega)
   try have sbh8 := szR_b qh8 (by omega) (by first | assumption | omega)
   try have snh8 := szR_no qh8
   refine WC.skip ?_
   refine hK7 _ _ ?_
   refine WC.rr tbk hs6 [] rfl trivial ?_
   refine WC.ret ?_
   refine retV1 rfl (resV.tmp rfl) ?_
   refine ⟨congrArg Ending.returned ?_, hs6.nil⟩
   simp only [totSess, SessR.dat] at *; first | (rw [szR_lt (by omega)]; done) | (refine congrArg (Value.int _) ?_; symm; refine (szR_le ?_).trans ?_ <;> omega) | rfl
set_option maxHeartbeats 4000000 in
theorem c_laws_toSess (a : SessR) (w : World) (f_a : okSessR 549755813888 w a) :
    Calls Try.prog 63 #[.agg #[.string a.Name, .slice a.Wins.A a.Wins.n a.Wins.c, i64 a.Active]] w fun e w' => ∃ r L1, e = .returned (.agg #[.string r.Name, .slice r.Wins.A r.Wins.n r.Wins.c, i64 r.Active]) ∧ St w [] L1 w' ∧ ownSessR r L1 ∧ r.dat = a.dat := by
 have nz_a_Name := f_a.Name_z
 have nb_a_Wins := f_a.Wins_n
 have nl_a_Wins := f_a.Wins.len
 refine enter (vs := [.agg #[.string a.Name, .slice a.Wins.A a.Wins.n a.Wins.c, i64 a.Active]]) 15 Try.func63 rfl Try.ntmps63 rfl rfl ?_
 have hs1 := St.init w
 refine WC.sr ?_
 refine WL.bx hs1 rfl (fun b2 _ hs3 => ?_)
 refine WL.al hs3 Try.zeroValue90 rfl rfl (fun b4 _ hs5 => ?_)
 refine WL.nil ?_
 refine WC.sr ?_
 refine WL.al hs5 Try.zeroValue90 rfl rfl (fun b6 _ hs7 => ?_)
 refine WL.nil ?_
 refine WC.sr ?_
 refine WL.run tbk 3 hs7 [2] rfl ⟨rfl, trivial⟩ ?_
 refine WL.st tbk hs7 0 rfl rfl (fun _ hs8 => ?_)
 refine WL.nil ?_
 refine WC.sr ?_
 refine WL.run tbk 2 hs8 [2] rfl ⟨rfl, trivial⟩ ?_
 refine WL.call rfl rfl rfl (Run.call Try.call76 rfl rfl rfl) (c_laws_toIntS _ _ _ _ _ (SlF.st0 f_a.Wins hs8) ?_) ?_
 · first | assumption | rfl | omega
 rintro _ whs9 ⟨A10, c11, L112, rfl, hs9, ho13⟩
 replace hs9 := hs8.callF hs9
 refine ⟨_, rfl, ?_⟩
 replace hs9 := St.back [_, _, _] hs9
 refine WL.run tbk 1 hs9 [] rfl trivial ?_
 refine WL.st tbk hs9 0 rfl rfl (fun _ hs14 => ?_)
 refine WL.nil ?_
 refine WC.sr ?_
 refine WL.run tbk 3 hs14 [2] rfl ⟨rfl, trivial⟩ ?_
 refine WL.st tbk hs14 0 rfl rfl (fun _ hs15 => ?_)
 refine WL.nil ?_
 refine WC.sr ?_
 refine WL.run tbk 1 hs15 [0] rfl ⟨rfl, trivial⟩ ?_
 refine WL.st tbk hs15 1 rfl rfl (fun _ hs16 => ?_)
 refine WL.nil ?_
 refine WC.ret ?_
 refine retV1 rfl (resV.cellA tbk hs16 1 rfl rfl rfl rfl) ?_
 refine ⟨⟨a.Name, SlD.of ho13, a.Active⟩, _, rfl, (St.keep1 (St.perm hs16 (L' := L112 ++ _) (perm_front (A := [_, _, _]) (List.Perm.refl _)))), ?_, ?_⟩
 · exact ho13
 · exact SessD.ext' rfl rfl rfl
set_option maxHeartbeats 4000000 in
theorem c_laws_eqSess (a : SessR) (b : SessR) (w : World) (f_a : okSessR 549755813888 w a) (f_b : okSessR 549755813888 w b) (hab : a.dat = b.dat) :
    Calls Try.prog 65 #[.agg #[.string a.Name, .slice a.Wins.A a.Wins.n a.Wins.c, i64 a.Active], .agg #[.string b.Name, .slice b.Wins.A b.Wins.n b.Wins.c, i64 b.Active]] w fun e w' => e = .returned (.bool true) ∧ St w [] [] w' := by
 have nz_a_Name := f_a.Name_z
 have nb_a_Wins := f_a.Wins_n
 have nl_a_Wins := f_a.Wins.len
 have nz_b_Name := f_b.Name_z
 have nb_b_Wins := f_b.Wins_n
 have nl_b_Wins := f_b.Wins.len
 have e_Name : a.Name = b.Name := congrArg (fun d : SessD => d.Name) hab
 have e_Wins : a.Wins.xs = b.Wins.xs := congrArg (fun d : SessD => d.Wins) hab
 have e_Active : a.Active = b.Active := congrArg (fun d : SessD => d.Active) hab
 refine enter (vs := [.agg #[.string a.Name, .slice a.Wins.A a.Wins.n a.Wins.c, i64 a.Active], .agg #[.string b.Name, .slice b.Wins.A b.Wins.n b.Wins.c, i64 b.Active]]) 21 Try.func65 rfl Try.ntmps65 rfl rfl ?_
 have hs1 := St.init w
 refine WC.sr ?_
 refine WL.bx hs1 rfl (fun b2 _ hs3 => ?_)
 refine WL.bx hs3 rfl (fun b4 _ hs5 => ?_)
 refine WL.run tbk 1 hs5 [] rfl trivial ?_
 refine WL.nil ?_
 refine WC.seq (fun K6 hK6 => ?_)
 refine WC.rr tbk hs5 [1, 0] rfl ⟨rfl, rfl, trivial⟩ ?_
 refine WC.condF rfl (by simp [e_Name, e_Active]) ?_
 refine WC.skip ?_
 refine hK6 _ _ ?_
 refine WC.seq (fun K8 hK8 => ?_)
 refine WC.sr ?_
 refine WL.run tbk 4 hs5 [1, 0] rfl ⟨rfl, rfl, trivial⟩ ?_
 refine WL.call rfl rfl rfl (Run.call Try.call88 rfl rfl rfl) (c_laws_eqIntS _ _ _ _ _ _ _ _ _ (SlF.st0 f_a.Wins hs5) (SlF.st0 f_b.Wins hs5) ?_ ?_) ?_
 · first | assumption | rfl | omega
 · first | assumption | rfl | omega
 rintro _ whs9 ⟨rfl, hs9⟩
 replace hs9 := hs5.call0 hs9
 refine ⟨_, rfl, ?_⟩
 refine WL.run tbk 1 hs9 [] rfl trivial ?_
 refine WL.nil ?_
 refine WC.condF rfl (by simp [e_Name, e_Active]) ?_
 refine WC.skip ?_
 refine hK8 _ _ ?_
 refine WC.seq (fun K11 hK11 => ?_)
 refine WC.rr tbk hs9 [1, 0] rfl ⟨rfl, rfl, trivial⟩ ?_
 refine WC.condF rfl (by simp [e_Name, e_Active]) ?_
 refine WC.skip ?_
 refine hK11 _ _ ?_
 refine WC.rr tbk hs9 [] rfl trivial ?_
 refine WC.ret ?_
 refine retV1 rfl (resV.tmp rfl) ?_
 refine ⟨congrArg Ending.returned ?_, hs9.nil⟩
 rfl
end Go.Proofs.Ytmkgffhdbagmjaa
