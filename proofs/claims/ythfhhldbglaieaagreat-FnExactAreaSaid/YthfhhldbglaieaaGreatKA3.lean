/-
  What the proof stands on, part 3.
-/
import Derived.Test.YthfhhldbglaieaaGreatKA2
namespace Go.Proofs.YthfhhldbglaieaaGreat
open Go Go.RowKit
set_option linter.unusedVariables false
set_option linter.unusedSimpArgs false
set_option maxHeartbeats 4000000 in
theorem k43_ (a : ScrR) (w : World) (f_a : okScrR 549755813888 w a) :
    Calls Tryz.prog 207 #[.agg (cScr a).toArray] w fun e w' => ∃ r L1, e = .returned (.agg (cScr r).toArray) ∧ St w [] L1 w' ∧ ownScrR r L1 ∧ r.dat = a.dat := by
 have nb_a_Main_Cells := f_a.Main.Cells_n
 have nl_a_Main_Cells := f_a.Main.Cells.len
 have nb_a_Alt_Cells := f_a.Alt.Cells_n
 have nl_a_Alt_Cells := f_a.Alt.Cells.len
 have nb_a_Tabs := f_a.Tabs_n
 have nl_a_Tabs := f_a.Tabs.len
 have nb_a_Back := f_a.Back_n
 have nl_a_Back := f_a.Back.sl.len
 refine enter 68 Tryz.func207 rfl Tryz.ntmps207 rfl rfl ?_
 have hs1 := St.init w
 refine WC.sr (WL.bx hs1 rfl (fun b2 _ hs3 => WL.al hs3 Tryz.zeroValue89 rfl rfl (fun b4 _ hs5 => WL.nil (WC.sr (WL.al hs5 Tryz.zeroValue89 rfl rfl (fun b6 _ hs7 => WL.nil (WC.sr ?_)))))))
 refine WL.r 3 hs7 [2] rfl (WL.st tbk hs7 0 rfl rfl (fun _ hs8 => WL.nil (WC.sr (WL.r 3 hs8 [2] rfl (WL.st tbk hs8 0 rfl rfl (fun _ hs9 => WL.nil (WC.sr ?_)))))))
 refine WL.r 2 hs9 [2] rfl (WL.cl Tryz.call246 rfl (k35_ a.Main _ (okGridR.st0 f_a.Main hs9)) ?_)
 rintro _ whs10 ⟨r11, L1_12, rfl, hs10, ho13, hd14⟩
 replace hs10 := hs9.callF hs10
 refine ⟨_, rfl, ?_⟩
 replace hs10 := St.back [_, _, _] hs10
 refine WL.r 1 hs10 [] rfl (WL.st tbk hs10 0 rfl rfl (fun _ hs15 => WL.nil (WC.sr (WL.r 2 hs15 [2] rfl (WL.cl Tryz.call246 rfl (k35_ a.Alt _ (okGridR.st0 f_a.Alt hs15)) ?_)))))
 rintro _ whs16 ⟨r17, L1_18, rfl, hs16, ho19, hd20⟩
 replace hs16 := hs15.callF hs16
 refine ⟨_, rfl, ?_⟩
 replace hs16 := St.back [_, _, _] hs16
 refine WL.r 1 hs16 [] rfl (WL.st tbk hs16 0 rfl rfl (fun _ hs21 => WL.nil (WC.sr (WL.r 3 hs21 [2] rfl (WL.st tbk hs21 0 rfl rfl (fun _ hs22 => WL.nil (WC.sr ?_)))))))
 refine WL.r 3 hs22 [2] rfl (WL.st tbk hs22 0 rfl rfl (fun _ hs23 => WL.nil (WC.sr (WL.r 3 hs23 [2] rfl (WL.st tbk hs23 0 rfl rfl (fun _ hs24 => WL.nil (WC.sr ?_)))))))
 refine WL.r 3 hs24 [2] rfl (WL.st tbk hs24 0 rfl rfl (fun _ hs25 => WL.nil (WC.sr (WL.r 2 hs25 [2] rfl (WL.cl Tryz.call247 rfl (k5_ _ _ _ _ _ _) ?_)))))
 rintro _ whs26 ⟨rfl, hs26⟩
 replace hs26 := hs25.call0 hs26
 refine ⟨_, rfl, WL.r 1 hs26 [] rfl (WL.st tbk hs26 0 rfl rfl (fun _ hs27 => WL.nil (WC.sr (WL.r 3 hs27 [2] rfl (WL.st tbk hs27 0 rfl rfl (fun _ hs28 => WL.nil ?_))))))⟩
 refine WC.sr (WL.r 3 hs28 [2] rfl (WL.st tbk hs28 0 rfl rfl (fun _ hs29 => WL.nil (WC.sr (WL.r 3 hs29 [2] rfl (WL.st tbk hs29 0 rfl rfl (fun _ hs30 => WL.nil ?_)))))))
 refine WC.sr (WL.r 3 hs30 [2] rfl (WL.st tbk hs30 0 rfl rfl (fun _ hs31 => WL.nil (WC.sr (WL.r 3 hs31 [2] rfl (WL.st tbk hs31 0 rfl rfl (fun _ hs32 => WL.nil ?_)))))))
 refine WC.sr (WL.r 3 hs32 [2] rfl (WL.st tbk hs32 0 rfl rfl (fun _ hs33 => WL.nil (WC.sr (WL.r 2 hs33 [2] rfl (WL.cl Tryz.call247 rfl (k5_ _ _ _ _ _ _) ?_))))))
 rintro _ whs34 ⟨rfl, hs34⟩
 replace hs34 := hs33.call0 hs34
 refine ⟨_, rfl, WL.r 1 hs34 [] rfl (WL.st tbk hs34 0 rfl rfl (fun _ hs35 => WL.nil (WC.sr (WL.r 2 hs35 [2] rfl ?_))))⟩
 refine WL.cl Tryz.call164 rfl (k14_ _ _ _ _ _ (SlF.st0 f_a.Tabs hs35) ?_) ?_
 · first | assumption | rfl | omega
 rintro _ whs36 ⟨A37, c38, L1_39, rfl, hs36, ho40⟩
 replace hs36 := hs35.callF hs36
 refine ⟨_, rfl, ?_⟩
 replace hs36 := St.back [_, _, _] hs36
 refine WL.r 1 hs36 [] rfl (WL.st tbk hs36 0 rfl rfl (fun _ hs41 => WL.nil (WC.sr (WL.r 3 hs41 [2] rfl (WL.st tbk hs41 0 rfl rfl (fun _ hs42 => WL.nil (WC.sr ?_)))))))
 refine WL.r 2 hs42 [2] rfl (WL.cl Tryz.call248 rfl (k42_ _ _ _ _ _ (SlN.st0 okRowR.st0 f_a.Back hs42) ?_) ?_)
 · first | assumption | rfl | omega
 rintro _ whs43 ⟨A44, c45, xs46, L1_47, rfl, hs43, ho48, hd49⟩
 replace hs43 := hs42.callF hs43
 refine ⟨_, rfl, ?_⟩
 replace hs43 := St.back [_, _, _] hs43
 refine WL.r 1 hs43 [] rfl (WL.st tbk hs43 0 rfl rfl (fun _ hs50 => WL.nil (WC.sr (WL.r 1 hs50 [0] rfl (WL.st tbk hs50 1 rfl rfl (fun _ hs51 => WL.nil (WC.ret ?_)))))))
 refine retV1 rfl (resV.cellA tbk hs51 1 rfl rfl rfl rfl) ?_
 obtain ⟨L53, hs52, ho54⟩ := ownScrR.fl hs51 ho13 ho19 ho40 ho48
 have hs55 := (((hs52.fb b2).fb b4).fb b6)
 refine ⟨⟨a.W, a.H, ⟨r11.W, r11.H, SlD.of ho13⟩, ⟨r17.W, r17.H, SlD.of ho19⟩, a.OnAlt, a.X, a.Y, a.Wrap, ⟨_, _, _, _, _⟩, a.Top, a.Bot, a.NoWrap, a.Hide, a.SaveX, a.SaveY, ⟨_, _, _, _, _⟩, SlD.of ho40, a.Limit, SlD.ofN ho48⟩, _, rfl, (St.keep1 (hs55.fr L53)), ?_, ?_⟩
 · exact (by exact ho54)
 · exact ScrD.ext' rfl rfl hd14 hd20 rfl rfl rfl rfl rfl rfl rfl rfl rfl rfl rfl rfl rfl rfl hd49
set_option maxHeartbeats 4000000 in
theorem k44_ (a : ScrR) (left : Int) (w : World) (f_a : okScrR 9223372036854775807 w a) (h1 : 0 ≤ left) (h2 : left ≤ 1048576) :
    Calls Tryz.prog 205 #[.agg (cScr a).toArray, i64 left] w fun e w' => e = .returned (.int .i64 (szR left (totScr a.dat))) ∧ St w [] [] w' := by
 have nb_a_Main_Cells := f_a.Main.Cells_n
 have nl_a_Main_Cells := f_a.Main.Cells.len
 have nb_a_Alt_Cells := f_a.Alt.Cells_n
 have nl_a_Alt_Cells := f_a.Alt.Cells.len
 have nb_a_Tabs := f_a.Tabs_n
 have nl_a_Tabs := f_a.Tabs.len
 have nb_a_Back := f_a.Back_n
 have nl_a_Back := f_a.Back.sl.len
 refine enter 30 Tryz.func205 rfl Tryz.ntmps205 rfl rfl ?_
 have hs1 := St.init w
 refine WC.sr (WL.bx hs1 rfl (fun b2 _ hs3 => WL.r 1 hs3 [] rfl (WL.nil (WC.sr (WL.r 3 hs3 [0] rfl ?_)))))
 refine WL.cl Tryz.call244 rfl (k36_ a.Main _ _ (okGridR.st0 f_a.Main hs3) ?_ ?_) ?_
 · first | assumption | omega
 · first | assumption | omega | exact szR_b (by assumption) (by omega) (by first | assumption | omega)
 rintro _ whs4 ⟨rfl, hs4⟩
 replace hs4 := hs3.call0 hs4
 refine ⟨_, rfl, WL.r 1 hs4 [] rfl (WL.nil (WC.seq (fun K5 hK5 => WC.r1 hs4 [] rfl ?_)))⟩
 refine WC.cD rfl (fun qh6 => ?_) (fun qh6 => ?_)
 ·try have soh6 := szR_ok qh6 (by omega)
  try have sbh6 := szR_b qh6 (by omega) (by first | assumption | omega)
  try have snh6 := szR_no qh6
  refine WC.r1 hs4 [] rfl (WC.ret (tkR ?_))
  clear hK5
  refine rtv rfl rfl hs4 ?_
  simp only [totGrid, totScr, GridR.dat, ScrR.dat] at *; first | (rw [szR_lt (by omega)]; done) | (refine congrArg (Value.int _) ?_; symm; refine (szR_le ?_).trans ?_ <;> omega) | rfl
 try have soh6 := szR_ok qh6 (by omega)
 try have sbh6 := szR_b qh6 (by omega) (by first | assumption | omega)
 try have snh6 := szR_no qh6
 refine WC.skip (hK5 _ _ (WC.sr (WL.r 3 hs4 [0] rfl ?_)))
 refine WL.cl Tryz.call244 rfl (k36_ a.Alt _ _ (okGridR.st0 f_a.Alt hs4) ?_ ?_) ?_
 · first | assumption | omega
 · first | assumption | omega | exact szR_b (by assumption) (by omega) (by first | assumption | omega)
 rintro _ whs7 ⟨rfl, hs7⟩
 replace hs7 := hs4.call0 hs7
 refine ⟨_, rfl, WL.r 1 hs7 [] rfl (WL.nil (WC.seq (fun K8 hK8 => WC.r1 hs7 [] rfl ?_)))⟩
 refine WC.cD rfl (fun qh9 => ?_) (fun qh9 => ?_)
 ·try have soh9 := szR_ok qh9 (by omega)
  try have sbh9 := szR_b qh9 (by omega) (by first | assumption | omega)
  try have snh9 := szR_no qh9
  refine WC.r1 hs7 [] rfl (WC.ret (tkR ?_))
  clear hK8
  refine rtv rfl rfl hs7 ?_
  simp only [totGrid, totScr, GridR.dat, ScrR.dat] at *; first | (rw [szR_lt (by omega)]; done) | (refine congrArg (Value.int _) ?_; symm; refine (szR_le ?_).trans ?_ <;> omega) | rfl
 try have soh9 := szR_ok qh9 (by omega)
 try have sbh9 := szR_b qh9 (by omega) (by first | assumption | omega)
 try have snh9 := szR_no qh9
 refine WC.skip (hK8 _ _ (WC.sr (WL.r 3 hs7 [0] rfl ?_)))
 refine WL.cl Tryz.call160 rfl (k13_ _ _ _ _ _ _ (SlF.st0 f_a.Tabs hs7) ?_ ?_ ?_) ?_
 · first | assumption | omega
 · first | assumption | omega | exact szR_b (by assumption) (by omega) (by first | assumption | omega)
 · first | assumption | omega
 rintro _ whs10 ⟨rfl, hs10⟩
 replace hs10 := hs7.call0 hs10
 refine ⟨_, rfl, WL.r 1 hs10 [] rfl (WL.nil (WC.seq (fun K11 hK11 => WC.r1 hs10 [] rfl ?_)))⟩
 refine WC.cD rfl (fun qh12 => ?_) (fun qh12 => ?_)
 ·try have soh12 := szR_ok qh12 (by omega)
  try have sbh12 := szR_b qh12 (by omega) (by first | assumption | omega)
  try have snh12 := szR_no qh12
  refine WC.r1 hs10 [] rfl (WC.ret (tkR ?_))
  clear hK11
  refine rtv rfl rfl hs10 ?_
  simp only [totGrid, totScr, GridR.dat, ScrR.dat] at *; first | (rw [szR_lt (by omega)]; done) | (refine congrArg (Value.int _) ?_; symm; refine (szR_le ?_).trans ?_ <;> omega) | rfl
 try have soh12 := szR_ok qh12 (by omega)
 try have sbh12 := szR_b qh12 (by omega) (by first | assumption | omega)
 try have snh12 := szR_no qh12
 refine WC.skip (hK11 _ _ (WC.sr (WL.r 3 hs10 [0] rfl ?_)))
 refine WL.cl Tryz.call245 rfl (k41_ _ _ _ _ _ _ (SlN.st0 okRowR.st0 f_a.Back hs10) ?_ ?_ ?_) ?_
 · first | assumption | omega
 · first | assumption | omega | exact szR_b (by assumption) (by omega) (by first | assumption | omega)
 · first | assumption | omega
 rintro _ whs13 ⟨rfl, hs13⟩
 replace hs13 := hs10.call0 hs13
 refine ⟨_, rfl, WL.r 1 hs13 [] rfl (WL.nil (WC.seq (fun K14 hK14 => WC.r1 hs13 [] rfl ?_)))⟩
 refine WC.cD rfl (fun qh15 => ?_) (fun qh15 => ?_)
 ·try have soh15 := szR_ok qh15 (by omega)
  try have sbh15 := szR_b qh15 (by omega) (by first | assumption | omega)
  try have snh15 := szR_no qh15
  refine WC.r1 hs13 [] rfl (WC.ret (tkR ?_))
  clear hK14
  refine rtv rfl rfl hs13 ?_
  simp only [totGrid, totScr, GridR.dat, ScrR.dat] at *; first | (rw [szR_lt (by omega)]; done) | (refine congrArg (Value.int _) ?_; symm; refine (szR_le ?_).trans ?_ <;> omega) | rfl
 try have soh15 := szR_ok qh15 (by omega)
 try have sbh15 := szR_b qh15 (by omega) (by first | assumption | omega)
 try have snh15 := szR_no qh15
 refine WC.skip (hK14 _ _ (WC.r1 hs13 [] rfl (WC.ret (rtv rfl rfl hs13 ?_))))
 simp only [totGrid, totScr, GridR.dat, ScrR.dat] at *; first | (rw [szR_lt (by omega)]; done) | (refine congrArg (Value.int _) ?_; symm; refine (szR_le ?_).trans ?_ <;> omega) | rfl
set_option maxHeartbeats 4000000 in
theorem k45_ (a : TermR) (w : World) (f_a : okTermR 549755813888 w a) :
    Calls Tryz.prog 162 #[.agg #[i64 a.P.State, .bool a.P.Mark, .slice a.P.Args.A a.P.Args.n a.P.Args.c, .slice a.P.Part.A a.P.Part.n a.P.Part.c, i64 a.S.W, i64 a.S.H, i64 a.S.Main.W, i64 a.S.Main.H, .slice a.S.Main.Cells.A a.S.Main.Cells.n a.S.Main.Cells.c, i64 a.S.Alt.W, i64 a.S.Alt.H, .slice a.S.Alt.Cells.A a.S.Alt.Cells.n a.S.Alt.Cells.c, .bool a.S.OnAlt, i64 a.S.X, i64 a.S.Y, .bool a.S.Wrap, i64 a.S.A.Fg, i64 a.S.A.Bg, .bool a.S.A.Bold, .bool a.S.A.Under, .bool a.S.A.Turn, i64 a.S.Top, i64 a.S.Bot, .bool a.S.NoWrap, .bool a.S.Hide, i64 a.S.SaveX, i64 a.S.SaveY, i64 a.S.SaveA.Fg, i64 a.S.SaveA.Bg, .bool a.S.SaveA.Bold, .bool a.S.SaveA.Under, .bool a.S.SaveA.Turn, .slice a.S.Tabs.A a.S.Tabs.n a.S.Tabs.c, i64 a.S.Limit, .slice a.S.Back.A a.S.Back.n a.S.Back.c]] w fun e w' => ∃ r L1, e = .returned (.agg #[i64 r.P.State, .bool r.P.Mark, .slice r.P.Args.A r.P.Args.n r.P.Args.c, .slice r.P.Part.A r.P.Part.n r.P.Part.c, i64 r.S.W, i64 r.S.H, i64 r.S.Main.W, i64 r.S.Main.H, .slice r.S.Main.Cells.A r.S.Main.Cells.n r.S.Main.Cells.c, i64 r.S.Alt.W, i64 r.S.Alt.H, .slice r.S.Alt.Cells.A r.S.Alt.Cells.n r.S.Alt.Cells.c, .bool r.S.OnAlt, i64 r.S.X, i64 r.S.Y, .bool r.S.Wrap, i64 r.S.A.Fg, i64 r.S.A.Bg, .bool r.S.A.Bold, .bool r.S.A.Under, .bool r.S.A.Turn, i64 r.S.Top, i64 r.S.Bot, .bool r.S.NoWrap, .bool r.S.Hide, i64 r.S.SaveX, i64 r.S.SaveY, i64 r.S.SaveA.Fg, i64 r.S.SaveA.Bg, .bool r.S.SaveA.Bold, .bool r.S.SaveA.Under, .bool r.S.SaveA.Turn, .slice r.S.Tabs.A r.S.Tabs.n r.S.Tabs.c, i64 r.S.Limit, .slice r.S.Back.A r.S.Back.n r.S.Back.c]) ∧ St w [] L1 w' ∧ ownTermR r L1 ∧ r.dat = a.dat := by
 have nb_a_P_Args := f_a.P.Args_n
 have nl_a_P_Args := f_a.P.Args.len
 have nb_a_P_Part := f_a.P.Part_n
 have nl_a_P_Part := f_a.P.Part.len
 have nb_a_S_Main_Cells := f_a.S.Main.Cells_n
 have nl_a_S_Main_Cells := f_a.S.Main.Cells.len
 have nb_a_S_Alt_Cells := f_a.S.Alt.Cells_n
 have nl_a_S_Alt_Cells := f_a.S.Alt.Cells.len
 have nb_a_S_Tabs := f_a.S.Tabs_n
 have nl_a_S_Tabs := f_a.S.Tabs.len
 have nb_a_S_Back := f_a.S.Back_n
 have nl_a_S_Back := f_a.S.Back.sl.len
 refine enter 13 Tryz.func162 rfl Tryz.ntmps162 rfl rfl ?_
 have hs1 := St.init w
 refine WC.sr (WL.bx hs1 rfl (fun b2 _ hs3 => WL.al hs3 Tryz.zeroValue91 rfl rfl (fun b4 _ hs5 => WL.nil (WC.sr (WL.al hs5 Tryz.zeroValue91 rfl rfl (fun b6 _ hs7 => WL.nil (WC.sr ?_)))))))
 refine WL.r 2 hs7 [2] rfl (WL.cl Tryz.call206 rfl (k37_ a.P _ (okVpR.st0 f_a.P hs7)) ?_)
 rintro _ whs8 ⟨r9, L1_10, rfl, hs8, ho11, hd12⟩
 replace hs8 := hs7.callF hs8
 refine ⟨_, rfl, ?_⟩
 replace hs8 := St.back [_, _, _] hs8
 refine WL.r 1 hs8 [] rfl (WL.st tbk hs8 0 rfl rfl (fun _ hs13 => WL.nil (WC.sr (WL.r 2 hs13 [2] rfl (WL.cl Tryz.call207 rfl (k43_ a.S _ (okScrR.st0 f_a.S hs13)) ?_)))))
 rintro _ whs14 ⟨r15, L1_16, rfl, hs14, ho17, hd18⟩
 replace hs14 := hs13.callF hs14
 refine ⟨_, rfl, ?_⟩
 replace hs14 := St.back [_, _, _] hs14
 refine WL.r 1 hs14 [] rfl (WL.st tbk hs14 0 rfl rfl (fun _ hs19 => WL.nil (WC.sr (WL.r 1 hs19 [0] rfl (WL.st tbk hs19 1 rfl rfl (fun _ hs20 => WL.nil (WC.ret ?_)))))))
 refine retV1 rfl (resV.cellA tbk hs20 1 rfl rfl rfl rfl) ?_
 obtain ⟨L21, L22, hs25, ho23, ho24⟩ := ownVpR.op hs20 ho11
 have hs26 := (((hs25.fb b2).fb b4).fb b6)
 obtain ⟨L27, L28, L29, L30, hs35, ho31, ho32, ho33, ho34⟩ := ownScrR.op hs26 ho17
 have hs36 := (((hs35.fb b2).fb b4).fb b6)
 obtain ⟨L38, hs37, ho39⟩ := ownTermR.fl hs36 ho23 ho24 ho31 ho32 ho33 ho34
 have hs40 := (((hs37.fb b2).fb b4).fb b6)
 refine ⟨⟨⟨r9.State, r9.Mark, SlD.of ho23, SlD.of ho24⟩, ⟨r15.W, r15.H, ⟨r15.Main.W, r15.Main.H, SlD.of ho31⟩, ⟨r15.Alt.W, r15.Alt.H, SlD.of ho32⟩, r15.OnAlt, r15.X, r15.Y, r15.Wrap, ⟨r15.A.Fg, r15.A.Bg, r15.A.Bold, r15.A.Under, r15.A.Turn⟩, r15.Top, r15.Bot, r15.NoWrap, r15.Hide, r15.SaveX, r15.SaveY, ⟨r15.SaveA.Fg, r15.SaveA.Bg, r15.SaveA.Bold, r15.SaveA.Under, r15.SaveA.Turn⟩, SlD.of ho33, r15.Limit, SlD.ofN ho34⟩⟩, _, rfl, (St.keep1 (hs40.fr L38)), ?_, ?_⟩
 · exact (by exact ho39)
 · exact TermD.ext' hd12 hd18
set_option maxHeartbeats 4000000 in
theorem k46_ (a : TermR) (left : Int) (w : World) (f_a : okTermR 9223372036854775807 w a) (h1 : 0 ≤ left) (h2 : left ≤ 1048576) :
    Calls Tryz.prog 158 #[.agg #[i64 a.P.State, .bool a.P.Mark, .slice a.P.Args.A a.P.Args.n a.P.Args.c, .slice a.P.Part.A a.P.Part.n a.P.Part.c, i64 a.S.W, i64 a.S.H, i64 a.S.Main.W, i64 a.S.Main.H, .slice a.S.Main.Cells.A a.S.Main.Cells.n a.S.Main.Cells.c, i64 a.S.Alt.W, i64 a.S.Alt.H, .slice a.S.Alt.Cells.A a.S.Alt.Cells.n a.S.Alt.Cells.c, .bool a.S.OnAlt, i64 a.S.X, i64 a.S.Y, .bool a.S.Wrap, i64 a.S.A.Fg, i64 a.S.A.Bg, .bool a.S.A.Bold, .bool a.S.A.Under, .bool a.S.A.Turn, i64 a.S.Top, i64 a.S.Bot, .bool a.S.NoWrap, .bool a.S.Hide, i64 a.S.SaveX, i64 a.S.SaveY, i64 a.S.SaveA.Fg, i64 a.S.SaveA.Bg, .bool a.S.SaveA.Bold, .bool a.S.SaveA.Under, .bool a.S.SaveA.Turn, .slice a.S.Tabs.A a.S.Tabs.n a.S.Tabs.c, i64 a.S.Limit, .slice a.S.Back.A a.S.Back.n a.S.Back.c], i64 left] w fun e w' => e = .returned (.int .i64 (szR left (totTerm a.dat))) ∧ St w [] [] w' := by
 have nb_a_P_Args := f_a.P.Args_n
 have nl_a_P_Args := f_a.P.Args.len
 have nb_a_P_Part := f_a.P.Part_n
 have nl_a_P_Part := f_a.P.Part.len
 have nb_a_S_Main_Cells := f_a.S.Main.Cells_n
 have nl_a_S_Main_Cells := f_a.S.Main.Cells.len
 have nb_a_S_Alt_Cells := f_a.S.Alt.Cells_n
 have nl_a_S_Alt_Cells := f_a.S.Alt.Cells.len
 have nb_a_S_Tabs := f_a.S.Tabs_n
 have nl_a_S_Tabs := f_a.S.Tabs.len
 have nb_a_S_Back := f_a.S.Back_n
 have nl_a_S_Back := f_a.S.Back.sl.len
 refine enter 18 Tryz.func158 rfl Tryz.ntmps158 rfl rfl ?_
 have hs1 := St.init w
 refine WC.sr (WL.bx hs1 rfl (fun b2 _ hs3 => WL.r 1 hs3 [] rfl (WL.nil (WC.sr (WL.r 3 hs3 [0] rfl ?_)))))
 refine WL.cl Tryz.call204 rfl (k38_ a.P _ _ (okVpR.st0 f_a.P hs3) ?_ ?_) ?_
 · first | assumption | omega
 · first | assumption | omega | exact szR_b (by assumption) (by omega) (by first | assumption | omega)
 rintro _ whs4 ⟨rfl, hs4⟩
 replace hs4 := hs3.call0 hs4
 refine ⟨_, rfl, WL.r 1 hs4 [] rfl (WL.nil (WC.seq (fun K5 hK5 => WC.r1 hs4 [] rfl ?_)))⟩
 refine WC.cD rfl (fun qh6 => ?_) (fun qh6 => ?_)
 ·try have soh6 := szR_ok qh6 (by omega)
  try have sbh6 := szR_b qh6 (by omega) (by first | assumption | omega)
  try have snh6 := szR_no qh6
  refine WC.r1 hs4 [] rfl (WC.ret (tkR ?_))
  clear hK5
  refine rtv rfl rfl hs4 ?_
  simp only [totGrid, totScr, totTerm, totVp, GridR.dat, ScrR.dat, TermR.dat, VpR.dat] at *; first | (rw [szR_lt (by omega)]; done) | (refine congrArg (Value.int _) ?_; symm; refine (szR_le ?_).trans ?_ <;> omega) | rfl
 try have soh6 := szR_ok qh6 (by omega)
 try have sbh6 := szR_b qh6 (by omega) (by first | assumption | omega)
 try have snh6 := szR_no qh6
 refine WC.skip (hK5 _ _ (WC.sr (WL.r 3 hs4 [0] rfl ?_)))
 refine WL.cl Tryz.call205 rfl (k44_ a.S _ _ (okScrR.st0 f_a.S hs4) ?_ ?_) ?_
 · first | assumption | omega
 · first | assumption | omega | exact szR_b (by assumption) (by omega) (by first | assumption | omega)
 rintro _ whs7 ⟨rfl, hs7⟩
 replace hs7 := hs4.call0 hs7
 refine ⟨_, rfl, WL.r 1 hs7 [] rfl (WL.nil (WC.seq (fun K8 hK8 => WC.r1 hs7 [] rfl ?_)))⟩
 refine WC.cD rfl (fun qh9 => ?_) (fun qh9 => ?_)
 ·try have soh9 := szR_ok qh9 (by omega)
  try have sbh9 := szR_b qh9 (by omega) (by first | assumption | omega)
  try have snh9 := szR_no qh9
  refine WC.r1 hs7 [] rfl (WC.ret (tkR ?_))
  clear hK8
  refine rtv rfl rfl hs7 ?_
  simp only [totGrid, totScr, totTerm, totVp, GridR.dat, ScrR.dat, TermR.dat, VpR.dat] at *; first | (rw [szR_lt (by omega)]; done) | (refine congrArg (Value.int _) ?_; symm; refine (szR_le ?_).trans ?_ <;> omega) | rfl
 try have soh9 := szR_ok qh9 (by omega)
 try have sbh9 := szR_b qh9 (by omega) (by first | assumption | omega)
 try have snh9 := szR_no qh9
 refine WC.skip (hK8 _ _ (WC.r1 hs7 [] rfl (WC.ret (rtv rfl rfl hs7 ?_))))
 simp only [totGrid, totScr, totTerm, totVp, GridR.dat, ScrR.dat, TermR.dat, VpR.dat] at *; first | (rw [szR_lt (by omega)]; done) | (refine congrArg (Value.int _) ?_; symm; refine (szR_le ?_).trans ?_ <;> omega) | rfl
theorem k47_ (q : WinR) (b_p : Nat) (p : Int) (w : World) (f_q : okWinR 549755813888 w q) (f_p : SlF encI w (some ⟨b_p, 0, none⟩) 1 [p]) (hq : q.Tree.n ≤ 1048576) :
    Calls Tryz.prog 45 #[.agg #[i64 q.Id, .string q.Name, .slice q.Tree.A q.Tree.n q.Tree.c, i64 q.Active, .bool q.Zoom], .pointer (some ⟨b_p, 0, none⟩)] w fun e w' => e = .returned (.bool (hasI (leavesL q.Tree.xs) p)) ∧ St w [] [] w' := by
 have nz_q_Name := f_q.Name_z
 have nb_q_Tree := f_q.Tree_n
 have nl_q_Tree := f_q.Tree.len
 have hll := leavesL_len q.Tree.xs
 refine enter 9 Tryz.func45 rfl Tryz.ntmps45 rfl rfl ?_
 have hs1 := St.init w
 refine WC.sr (WL.bx hs1 rfl (fun b2 _ hs3 => WL.r 1 hs3 [] rfl (WL.nil (WC.seq (fun K4 hK4 => WC.rH hs3 hs3 (fun _ hs5 => ?_))))))
 refine WH.rn [0, 1] hs5 [0] rfl rfl ?_
 refine WH.take 3 rfl (by kernel_rfl) rfl rfl rfl hs5 (fun w_ hs_ => (Run.load Tryz.isAgg3 rfl rfl (SlF.var (SlF.st0 f_p (hs_ : St _ _ _ _)) rfl))) ?_
 refine WH.o1 2 rfl (WL.cl Tryz.call47 rfl (k34_ _ _ _ _ _ (SlF.st0 f_q.Tree hs5) ?_) ?_)
 · first | assumption | rfl | omega
 rintro _ whs6 ⟨A7, c8, L1_9, rfl, hs6, ho10⟩
 replace hs6 := hs5.callF hs6
 refine ⟨_, rfl, ?_⟩
 replace hs6 := St.back [_] hs6
 refine WL.nil ⟨(hs6.rm L1_9), WH.o1 4 rfl (WL.cl Tryz.call46 rfl (k27_ _ _ _ _ _ _ (SlF.ofOwn ho10 (hs6.ow L1_9)) ?_) ?_)⟩
 · first | assumption | rfl | omega
 rintro _ whs11 ⟨rfl, hs11⟩
 replace hs11 := hs6.call0 hs11
 refine ⟨_, rfl, WL.nil ⟨(hs11.rm L1_9), WH.rn [5] (hs11.rm L1_9) [] rfl rfl (WH.dn (hK4 _ _ (WC.ret (rtv rfl rfl hs11 ?_))))⟩⟩
 rfl
theorem k48_ (A_s : Option Addr) (n_s c_s : Nat) (s : List WinR) (b_p : Nat) (p : Int) (w : World) (f_s : SlN encWinR (okWinR 549755813888) w A_s n_s s) (f_p : SlF encI w (some ⟨b_p, 0, none⟩) 1 [p]) (hn : n_s ≤ 549755813888) (hW : ∀ y, y ∈ s → y.Tree.n ≤ 1048576) :
    Calls Tryz.prog 44 #[.slice A_s n_s c_s, .func (.func 45) #[] #[.pointer (some ⟨b_p, 0, none⟩)]] w fun e w' => e = .returned (.int .i64 (findI (fun q : WinR => hasI (leavesL q.Tree.xs) p) s)) ∧ St w [] [] w' := by
 have hsl := f_s.sl.len
 refine enter 19 Tryz.func44 rfl Tryz.ntmps44 rfl rfl ?_
 have hs1 := St.init w
 refine WC.r1 hs1 [] rfl (WC.seq (fun K2 hK2 => WC.r1 hs1 [] rfl (WC.block ?_)))
 refine WC.lS [0, 1, 7] rfl hs1 (fun k_ f w' => ∃ (i : Nat), k_ = n_s - i ∧ (i ≤ n_s) ∧ (∀ j, j < i → (fun q : WinR => hasI (leavesL q.Tree.xs) p) (gat encWinR s j) = false) ∧ Sub [(8, .int .i64 i)] f) ((fun (i : Nat) => n_s - i) (0)) ?_ ?_
 ·refine ⟨0, rfl, ?_, ?_, ⟨rfl, trivial⟩⟩
  · exact Nat.zero_le _
  · exact fun j hj => absurd hj (by omega)
 clear hs1
 rintro _ f w ⟨i, rfl, p0, p1, hG⟩ hF hs3
 refine WC.sub _ (hG.app hF) ?_
 clear hG hF
 refine WC.r1 hs3 [] rfl (WC.seq (fun K4 hK4 => ?_))
 refine WC.cond rfl (fun h5 => ?_) (fun h5 => ?_)
 ·have qh5 := h5
  try simp only [decide_eq_true_eq, decide_eq_false_iff_not] at qh5
  have hWi := hW (gat encWinR s i) (gat_mem (by omega))
  refine WC.skip (hK4 _ _ (WC.seq (fun K6 hK6 => WC.block (WC.r1 hs3 [] rfl (WC.sr (WL.r 3 hs3 [] rfl ?_))))))
  refine WL.val rfl rfl rfl (Run.idxN Tryz.runUnderlying30 Tryz.sizeOf58 rfl rfl rfl ?_ ?_ ?_) ?_
  · exact SlF.some_ (SlF.st0 f_s.sl hs3)
  · omega
  · omega
  refine WL.val rfl rfl rfl (Run.loadA Tryz.isAgg58 Tryz.sizeOf58 rfl rfl (SlF.whole (SlF.st0 f_s.sl hs3) ?_)) ?_
  · omega
  refine WL.call rfl rfl rfl (Run.callC Tryz.call45 rfl rfl rfl) (k47_ (gat encWinR s i) _ _ _ (okWinR.st0 (SlN.nth f_s (by omega)) hs3) (SlF.st0 f_p hs3) ?_) ?_
  · first | assumption | rfl | omega
  rintro _ whs7 ⟨rfl, hs7⟩
  replace hs7 := hs3.call0 hs7
  refine ⟨_, rfl, WL.nil (WC.cond rfl (fun h8 => ?_) (fun h8 => ?_))⟩
  ·have qh8 := h8
   try simp only [decide_eq_true_eq, decide_eq_false_iff_not] at qh8
   refine WC.r1 hs7 [] rfl (WC.ret (ibR (tkR (tkR (ibR (tkR ?_))))))
   clear hK6 hK2
   refine rtv rfl rfl hs7 ?_
   rw [findI_some (F := encWinR) (by rw [f_s.sl.len]; omega) p1 h8]
  have qh8 := h8
  try simp only [decide_eq_true_eq, decide_eq_false_iff_not] at qh8
  refine WC.skip (hK6 _ _ (WC.region (WL.r 2 hs7 [] rfl (WL.nil (tkN ?_)))))
  refine ⟨sbF rfl, hs7, _, ?_, i + 1, rfl, ?_, ?_, ⟨rfl, trivial⟩⟩
  · omega
  · omega
  · intro j hj; rcases Nat.lt_or_ge j i with h_ | h_
    · exact p1 j h_
    · obtain rfl : j = i := by omega
      exact h8
 have qh5 := h5
 try simp only [decide_eq_true_eq, decide_eq_false_iff_not] at qh5
 refine WC.exit (hK2 _ _ (WC.r1 hs3 [] rfl (WC.ret (rtv rfl rfl hs3 ?_))))
 rw [findI_none (F := encWinR) (fun j hj => p1 j (by rw [f_s.sl.len] at hj; omega))]
theorem k49_ (s : StateR) (p : Int) (w : World) (f_s : okStateR 549755813888 w s) (hT : totState s.dat ≤ 1048576) :
    Calls Tryz.prog 14 #[.agg #[i64 s.W, i64 s.H, i64 s.Limit, i64 s.Next, .slice s.Panes.A s.Panes.n s.Panes.c, .slice s.Wins.A s.Wins.n s.Wins.c, .slice s.Sess.A s.Sess.n s.Sess.c], i64 p] w fun e w' => e = .returned (.int .i64 (findI (winHas p) s.dat.Wins)) ∧ St w [] [] w' := by
 have nb_s_Panes := f_s.Panes_n
 have nl_s_Panes := f_s.Panes.sl.len
 have nb_s_Wins := f_s.Wins_n
 have nl_s_Wins := f_s.Wins.sl.len
 have nb_s_Sess := f_s.Sess_n
 have nl_s_Sess := f_s.Sess.sl.len
 have hsm0 : smState 1048576 s.dat := totState_sm hT
 have hWn : ∀ y, y ∈ s.Wins.xs → y.Tree.n ≤ 1048576 := fun y hy => by have h1 := (f_s.Wins.all y hy).Tree.len; have h2 : y.Tree.xs.length ≤ 1048576 := (hsm0.2.2.2.1 _ (List.mem_map_of_mem hy)).2; omega
 refine enter 9 Tryz.func14 rfl Tryz.ntmps14 rfl rfl ?_
 have hs1 := St.init w
 refine WC.sr (WL.bx hs1 rfl (fun b2 _ hs3 => WL.bx hs3 rfl (fun b4 _ hs5 => WL.r 1 hs5 [] rfl (WL.nil (WC.sr (WL.r 2 hs5 [1] rfl (WL.val rfl rfl rfl (Run.makeFunc rfl rfl) ?_)))))))
 refine WL.cl Tryz.call44 rfl (k48_ _ _ _ _ _ _ _ (SlN.st0 okWinR.st0 f_s.Wins hs5) (SlF.own1 (hs5.own _ (nthL_mem (i := 0) rfl)).1) ?_ ?_) ?_
 iterate 2 first | assumption | rfl | omega
 rintro _ whs6 ⟨rfl, hs6⟩
 replace hs6 := hs5.call0 hs6
 refine ⟨_, rfl, WL.r 1 hs6 [] rfl (WL.nil (WC.ret (rtv rfl rfl hs6 ?_)))⟩
 rw [show s.dat.Wins = s.Wins.xs.map WinR.dat from rfl, findI_map]; rfl
theorem k50_ (s : StateR) (p : Int) (w : World) (f_s : okStateR 549755813888 w s) (hT : totState s.dat ≤ 1048576) :
    Calls Tryz.prog 12 #[.agg #[i64 s.W, i64 s.H, i64 s.Limit, i64 s.Next, .slice s.Panes.A s.Panes.n s.Panes.c, .slice s.Wins.A s.Wins.n s.Wins.c, .slice s.Sess.A s.Sess.n s.Sess.c], i64 p] w fun e w' => e = .returned (.int .i64 (findI (winHas p) s.dat.Wins)) ∧ St w [] [] w' := by
 have nb_s_Panes := f_s.Panes_n
 have nl_s_Panes := f_s.Panes.sl.len
 have nb_s_Wins := f_s.Wins_n
 have nl_s_Wins := f_s.Wins.sl.len
 have nb_s_Sess := f_s.Sess_n
 have nl_s_Sess := f_s.Sess.sl.len
 have hsm0 : smState 1048576 s.dat := totState_sm hT
 have hWn : ∀ y, y ∈ s.Wins.xs → y.Tree.n ≤ 1048576 := fun y hy => by have h1 := (f_s.Wins.all y hy).Tree.len; have h2 : y.Tree.xs.length ≤ 1048576 := (hsm0.2.2.2.1 _ (List.mem_map_of_mem hy)).2; omega
 refine enter 22 Tryz.func12 rfl Tryz.ntmps12 rfl rfl ?_
 have hs1 := St.init w
 refine WC.sr (WL.bx hs1 rfl (fun b2 _ hs3 => WL.r 1 hs3 [] rfl (WL.nil (WC.seq (fun K4 hK4 => WC.r1 hs3 [0] rfl (WC.block ?_))))))
 refine WC.lS [1, 8, 9] rfl hs3 (fun k_ f w' => ∃ (i : Nat), k_ = s.Wins.n - i ∧ (i ≤ s.Wins.n) ∧ (∀ j, j < i → (fun q : WinR => hasI (leavesL q.Tree.xs) p) (gat encWinR s.Wins.xs j) = false) ∧ Sub [(10, .int .i64 i)] f) ((fun (i : Nat) => s.Wins.n - i) (0)) ?_ ?_
 ·refine ⟨0, rfl, ?_, ?_, ⟨rfl, trivial⟩⟩
  · exact Nat.zero_le _
  · exact fun j hj => absurd hj (by omega)
 clear hs3
 rintro _ f w ⟨i, rfl, p0, p1, hG⟩ hF hs5
 refine WC.sub _ (hG.app hF) ?_
 clear hG hF
 refine WC.r1 hs5 [] rfl (WC.seq (fun K6 hK6 => ?_))
 refine WC.cq rfl (fun h7 qh7 => ?_) (fun h7 qh7 => ?_)
 ·have hWi := hWn (gat encWinR s.Wins.xs i) (gat_mem (by omega))
  have hll := leavesL_len (gat encWinR s.Wins.xs i).Tree.xs
  have hTl := (SlN.nth f_s.Wins (show i < s.Wins.n by omega)).Tree.len
  refine WC.skip (hK6 _ _ (WC.seq (fun K8 hK8 => WC.block (WC.sr (WL.r 1 hs5 [] rfl ?_)))))
  refine WL.val rfl rfl rfl (Run.idxN Tryz.runUnderlying30 Tryz.sizeOf58 rfl rfl rfl ?_ ?_ ?_) ?_
  · exact SlF.some_ (SlF.st0 f_s.Wins.sl hs5)
  · omega
  · omega
  refine WL.val rfl rfl rfl (Run.loadA Tryz.isAgg58 Tryz.sizeOf58 rfl rfl (SlF.whole (SlF.st0 f_s.Wins.sl hs5) ?_)) ?_
  · omega
  refine WL.al hs5 Tryz.zeroValue58 rfl rfl (fun b9 _ hs10 => WL.r 1 hs10 [] rfl (WL.st tbk hs10 0 rfl rfl (fun _ hs11 => WL.nil (WC.sr (WL.r 2 hs11 [0] rfl ?_)))))
  refine WL.cl Tryz.call40 rfl (k30_ _ _ _ _ _ (SlF.st0 (SlN.nth f_s.Wins (by omega)).Tree hs11) ?_) ?_
  · first | assumption | rfl | omega
  rintro _ whs12 ⟨A13, c14, L1_15, rfl, hs12, ho16⟩
  replace hs12 := hs11.callF hs12
  refine ⟨_, rfl, ?_⟩
  replace hs12 := St.back [_, _] hs12
  refine WL.r 1 hs12 [] rfl (WL.cl Tryz.call39 rfl (k28_ _ _ _ _ _ _ (SlF.ofOwn ho16 (hs12.ow L1_15)) ?_) ?_)
  · first | assumption | rfl | omega
  rintro _ whs17 ⟨rfl, hs17⟩
  replace hs17 := hs12.call0 hs17
  refine ⟨_, rfl, WL.nil (WC.cq rfl (fun h18 qh18 => ?_) (fun h18 qh18 => ?_))⟩
  ·refine WC.r1 hs17 [] rfl (WC.ret (ibR (tkR (tkR (ibR (tkR ?_))))))
   clear hK8 hK4
   refine rtv rfl rfl hs17 ?_
   rw [show s.dat.Wins = s.Wins.xs.map WinR.dat from rfl, findI_map]; exact congrArg (Value.int _) (findI_some (F := encWinR) (p := (fun q : WinR => hasI (leavesL q.Tree.xs) p)) (xs := s.Wins.xs) (by omega) p1 h18).symm
  refine WC.skip (hK8 _ _ (WC.region (WL.r 2 hs17 [] rfl (WL.nil (tkN ?_)))))
  refine ⟨sbF rfl, (hs17.drop (by repeat (first | exact List.Sublist.refl _ | exact List.sublist_append_left _ _ | exact List.Sublist.trans (List.sublist_append_left _ _) (List.sublist_append_left _ _) | apply List.Sublist.cons | refine List.Sublist.trans ?_ (sR _)))), _, ?_, i + 1, rfl, ?_, ?_, ⟨rfl, trivial⟩⟩
  · omega
  · omega
  · intro j hj; rcases Nat.lt_or_ge j i with h_ | h_
    · exact p1 j h_
    · obtain rfl : j = i := by omega
      exact h18
 refine WC.exit (hK4 _ _ (WC.r1 hs5 [] rfl (WC.ret (rtv rfl rfl hs5 ?_))))
 rw [show s.dat.Wins = s.Wins.xs.map WinR.dat from rfl, findI_map]; exact congrArg (Value.int _) (findI_none (F := encWinR) (p := (fun q : WinR => hasI (leavesL q.Tree.xs) p)) (xs := s.Wins.xs) (fun j hj => p1 j (by omega))).symm
theorem inf71 : Tryz.prog.info? 71 = some Tryz.t71 := by kernel_rfl
set_option maxHeartbeats 1000000 in
theorem k51_ (n_Pane : Int) (n_Down : Bool) (n_First : Int) (r_Pane : Int) (r_X : Int) (r_Y : Int) (r_W : Int) (r_H : Int) (w : World) (hb : -1000000 ≤ n_First ∧ n_First ≤ 1000000 ∧ 0 ≤ r_X ∧ r_X ≤ 1000 ∧ 0 ≤ r_Y ∧ r_Y ≤ 1000 ∧ 0 ≤ r_W ∧ r_W ≤ 1000 ∧ 0 ≤ r_H ∧ r_H ≤ 1000) :
    Calls Tryz.prog 264 #[.agg #[i64 n_Pane, .bool n_Down, i64 n_First], .agg #[i64 r_Pane, i64 r_X, i64 r_Y, i64 r_W, i64 r_H]] w fun e w' => e = .returned (.tuple #[.agg (encRect.enc (firstR (⟨n_Pane, n_Down, n_First⟩ : NodeD) (⟨r_Pane, r_X, r_Y, r_W, r_H⟩ : RectD))).toArray, .agg (encRect.enc (secondR (⟨n_Pane, n_Down, n_First⟩ : NodeD) (⟨r_Pane, r_X, r_Y, r_W, r_H⟩ : RectD))).toArray, .bool (decide (3 ≤ sizeR (⟨n_Pane, n_Down, n_First⟩ : NodeD) (⟨r_Pane, r_X, r_Y, r_W, r_H⟩ : RectD)))]) ∧ St w [] [] w' := by
 refine enter 56 Tryz.func264 rfl Tryz.ntmps264 rfl rfl ?_
 have hs1 := St.init w
 refine WC.sr (WL.bx hs1 rfl (fun b2 _ hs3 => WL.bx hs3 rfl (fun b4 _ hs5 => WL.al hs5 Tryz.zeroValue71 rfl rfl (fun b6 _ hs7 => WL.al hs7 Tryz.zeroValue71 rfl rfl (fun b8 _ hs9 => WL.r 1 hs9 [] rfl (WL.nil (WC.seq (fun K10 hK10 => ?_))))))))
 apply WC.join2 (fun b11 b12 => (b11, .cells (List.toArray [i64 (r_Pane), i64 (r_X), i64 (r_Y), i64 (r_W), i64 (r_H)]) _ _) :: (b12, .cells (List.toArray [i64 (r_Pane), i64 (r_X), i64 (r_Y), i64 (r_W), i64 (r_H)]) _ _) :: (b8, _) :: (b6, _) :: (b4, _) :: (b2, _) :: _) (fun b11 b12 => [(0, _), (1, _), (2, _), (3, _), (4, _), (5, _), (6, _), (7, _), (8, _)])
 ·refine WC.rH hs9 hs9 (fun _ hs13 => ?_)
  refine WH.rn [0, 1] hs13 [2, 2] rfl rfl (WH.all [2, 3] (by kernel_rfl) rfl (WHs.cons (i := 2) rfl ?_ (WHs.cons (i := 3) rfl ?_ WHs.nil)))
  ·refine WL.al hs13 Tryz.zeroValue71 rfl rfl (fun b14 _ hs15 => WL.nil ⟨hs15.d1, WH.o1 3 rfl (WL.al hs15 Tryz.zeroValue71 rfl rfl (fun b16 _ hs17 => WL.nil ⟨hs17.d1.d1, WH.o1 4 rfl (WL.st tbk hs17 1 rfl rfl (fun _ hs18 => WL.nil ⟨hs18.d1.d1, ?_⟩))⟩))⟩)
   refine WH.o1 5 rfl (WL.st tbk hs18 0 rfl rfl (fun _ hs19 => WL.nil ⟨hs19.d1.d1, WH.dn (⟨rfl, b14, b16, (St.swap [] hs19), ⟨rfl, rfl, rfl, rfl, rfl, rfl, rfl, rfl, rfl, trivial⟩⟩)⟩))
  refine WL.al hs13 Tryz.zeroValue71 rfl rfl (fun b20 _ hs21 => WL.nil ⟨hs21.d1, WH.o1 2 rfl (WL.al hs21 Tryz.zeroValue71 rfl rfl (fun b22 _ hs23 => WL.nil ⟨hs23.d1.d1, WH.o1 4 rfl (WL.st tbk hs23 0 rfl rfl (fun _ hs24 => WL.nil ⟨hs24.d1.d1, ?_⟩))⟩))⟩)
  refine WH.o1 5 rfl (WL.st tbk hs24 1 rfl rfl (fun _ hs25 => WL.nil ⟨hs25.d1.d1, WH.dn (⟨rfl, b22, b20, hs25, ⟨rfl, rfl, rfl, rfl, rfl, rfl, rfl, rfl, rfl, trivial⟩⟩)⟩))
 ·rintro f_hs26 whs26 ⟨b11, b12, hs26, hG27⟩
  replace hs26 : St _ _ _ _ := hs26
  refine hK10 _ _ (WC.sub _ hG27 (WC.r1 hs26 [4] rfl (WC.seq (fun K28 hK28 => WC.r1 hs26 [5] rfl ?_))))
  refine WC.cq rfl (fun h29 qh29 => ?_) (fun h29 qh29 => ?_)
  ·have hd : n_Down = true := qh29
   have e1 : firstR (⟨n_Pane, n_Down, n_First⟩ : NodeD) (⟨r_Pane, r_X, r_Y, r_W, r_H⟩ : RectD) = ⟨r_Pane, r_X, r_Y, r_W, min n_First (r_H - 2)⟩ := by simp [firstR, hd]
   have e2 : secondR (⟨n_Pane, n_Down, n_First⟩ : NodeD) (⟨r_Pane, r_X, r_Y, r_W, r_H⟩ : RectD) = ⟨r_Pane, r_X, r_Y + min n_First (r_H - 2) + 1, r_W, r_H - min n_First (r_H - 2) - 1⟩ := by simp [secondR, hd]
   have e3 : sizeR (⟨n_Pane, n_Down, n_First⟩ : NodeD) (⟨r_Pane, r_X, r_Y, r_W, r_H⟩ : RectD) = r_H := by simp [sizeR, hd]
   refine WC.region (WL.r 3 hs26 [4] rfl (WL.nil (hK28 _ _ (WC.r1 hs26 [5] rfl (WC.seq (fun K30 hK30 => WC.r1 hs26 [5] rfl (WC.condT rfl h29 ?_)))))))
   apply WC.join0 ((b11, .cells (List.toArray [i64 (r_Pane), i64 (r_X), i64 (r_Y), i64 (r_W), i64 (min n_First (r_H - 2))]) _ _) :: (b12, .cells (List.toArray [i64 (r_Pane), i64 (r_X), i64 (r_Y + min n_First (r_H - 2) + 1), i64 (r_W), i64 (r_H - min n_First (r_H - 2) - 1)]) _ _) :: (b8, _) :: (b6, _) :: (b4, _) :: (b2, _) :: _) ([(0, _), (1, _), (2, _), (3, _), (4, _), (5, _), (6, _), (7, _), (8, _), (9, _), (10, _), (13, _), (14, _), (15, _), (16, _), (17, _), (18, _), (19, _), (20, _), (21, _), (22, _), (23, _), (24, _), (25, _)])
   ·refine WC.rH hs26.d1.d1 hs26 (fun _ hs32 => ?_)
    refine WH.rn [0, 1, 2, 3, 4, 5, 6, 7, 8, 9, 10] hs32.d1.d1 [2] rfl rfl (WH.o1 11 rfl (WL.st tbk hs32 0 rfl rfl (fun _ hs33 => WL.nil ⟨hs33.d1.d1, WH.rn [12] hs33.d1.d1 [] rfl rfl (WH.o1 13 rfl (WL.st tbk hs33 1 rfl rfl (fun _ hs34 => WL.nil ⟨hs34.d1.d1, ?_⟩)))⟩)))
    refine WH.rn [14] hs34.d1.d1 [] rfl rfl (WH.o1 15 rfl (WL.st tbk hs34 1 rfl rfl (fun _ hs35 => WL.nil ⟨hs35.d1.d1, WH.dn (⟨rfl, hs35, ⟨rfl, rfl, rfl, rfl, rfl, rfl, rfl, rfl, rfl, rfl, rfl, rfl, rfl, rfl, rfl, rfl, rfl, rfl, rfl, rfl, rfl, rfl, rfl, rfl, trivial⟩⟩)⟩)))
   ·rintro f_hs36 whs36 ⟨hs36, hG37⟩
    replace hs36 : St _ _ _ _ := hs36
    refine hK30 _ _ (WC.sub _ hG37 (WC.seq (fun K38 hK38 => ?_)))
    apply WC.join0 ((b11, _) :: (b12, _) :: (b8, .cells (List.toArray [i64 (r_Pane), i64 (r_X), i64 (r_Y + min n_First (r_H - 2) + 1), i64 (r_W), i64 (r_H - min n_First (r_H - 2) - 1)]) _ _) :: (b6, .cells (List.toArray [i64 (r_Pane), i64 (r_X), i64 (r_Y), i64 (r_W), i64 (min n_First (r_H - 2))]) _ _) :: (b4, _) :: (b2, _) :: _) ([(0, _), (1, _), (2, _), (3, _), (4, _), (5, _), (7, _), (8, _), (9, _), (10, _), (13, _), (14, _), (15, _), (16, _), (17, _), (18, _), (19, _), (20, _), (21, _), (22, _), (23, _), (24, _), (25, _), (6, _)])
    ·refine WC.rH ((hs36.fb b8).d1.fb b6).d1 hs36 (fun _ hs39 => ?_)
     refine WH.rn [0, 1, 2, 3] ((hs39.fb b8).d1.fb b6).d1 [0, 1] rfl rfl (WH.o1 4 rfl (WL.st tbk hs39 3 rfl rfl (fun _ hs40 => WL.nil ⟨((hs40.fb b8).d1.fb b6).d1, WH.o1 5 rfl (WL.st tbk hs40 2 rfl rfl (fun _ hs41 => WL.nil ⟨((hs41.fb b8).d1.fb b6).d1, WH.rn [6] ((hs41.fb b8).d1.fb b6).d1 [] rfl rfl ?_⟩))⟩)))
     refine WH.dn (⟨rfl, hs41, ⟨rfl, rfl, rfl, rfl, rfl, rfl, rfl, rfl, rfl, rfl, rfl, rfl, rfl, rfl, rfl, rfl, rfl, rfl, rfl, rfl, rfl, rfl, rfl, rfl, trivial⟩⟩)
    ·rintro f_hs42 whs42 ⟨hs42, hG43⟩
     replace hs42 : St _ _ _ _ := hs42
     refine hK38 _ _ (WC.sub _ hG43 (WC.ret (retV3 rfl (resV.cellA tbk hs42 3 rfl rfl rfl rfl) (resV.cellA tbk hs42 2 rfl rfl rfl rfl) (resV.tmp rfl) (⟨congrArg Ending.returned ?_, hs42.nil⟩))))
     rw [e1, e2, e3]; rfl
  have hd : n_Down = false := qh29
  have e1 : firstR (⟨n_Pane, n_Down, n_First⟩ : NodeD) (⟨r_Pane, r_X, r_Y, r_W, r_H⟩ : RectD) = ⟨r_Pane, r_X, r_Y, min n_First (r_W - 2), r_H⟩ := by simp [firstR, hd]
  have e2 : secondR (⟨n_Pane, n_Down, n_First⟩ : NodeD) (⟨r_Pane, r_X, r_Y, r_W, r_H⟩ : RectD) = ⟨r_Pane, r_X + min n_First (r_W - 2) + 1, r_Y, r_W - min n_First (r_W - 2) - 1, r_H⟩ := by simp [secondR, hd]
  have e3 : sizeR (⟨n_Pane, n_Down, n_First⟩ : NodeD) (⟨r_Pane, r_X, r_Y, r_W, r_H⟩ : RectD) = r_W := by simp [sizeR, hd]
  refine WC.skip (hK28 _ _ (WC.r1 hs26 [5] rfl (WC.seq (fun K44 hK44 => WC.r1 hs26 [5] rfl (WC.condF rfl h29 ?_)))))
  apply WC.join0 ((b11, .cells (List.toArray [i64 (r_Pane), i64 (r_X), i64 (r_Y), i64 (min n_First (r_W - 2)), i64 (r_H)]) _ _) :: (b12, .cells (List.toArray [i64 (r_Pane), i64 (r_X + min n_First (r_W - 2) + 1), i64 (r_Y), i64 (r_W - min n_First (r_W - 2) - 1), i64 (r_H)]) _ _) :: (b8, _) :: (b6, _) :: (b4, _) :: (b2, _) :: _) ([(0, _), (1, _), (2, _), (3, _), (4, _), (5, _), (6, _), (7, _), (8, _), (9, _), (10, _), (13, _), (14, _), (15, _), (16, _), (19, _), (20, _), (21, _), (22, _), (23, _), (24, _), (25, _)])
  ·refine WC.rH hs26.d1.d1 hs26 (fun _ hs46 => ?_)
   refine WH.rn [0, 1, 2, 3, 4, 5, 6, 7, 8, 9, 10] hs46.d1.d1 [2] rfl rfl (WH.o1 11 rfl (WL.st tbk hs46 0 rfl rfl (fun _ hs47 => WL.nil ⟨hs47.d1.d1, WH.rn [12] hs47.d1.d1 [] rfl rfl (WH.o1 13 rfl (WL.st tbk hs47 1 rfl rfl (fun _ hs48 => WL.nil ⟨hs48.d1.d1, ?_⟩)))⟩)))
   refine WH.rn [14] hs48.d1.d1 [] rfl rfl (WH.o1 15 rfl (WL.st tbk hs48 1 rfl rfl (fun _ hs49 => WL.nil ⟨hs49.d1.d1, WH.dn (⟨rfl, hs49, ⟨rfl, rfl, rfl, rfl, rfl, rfl, rfl, rfl, rfl, rfl, rfl, rfl, rfl, rfl, rfl, rfl, rfl, rfl, rfl, rfl, rfl, rfl, trivial⟩⟩)⟩)))
  ·rintro f_hs50 whs50 ⟨hs50, hG51⟩
   replace hs50 : St _ _ _ _ := hs50
   refine hK44 _ _ (WC.sub _ hG51 (WC.seq (fun K52 hK52 => ?_)))
   apply WC.join0 ((b11, _) :: (b12, _) :: (b8, .cells (List.toArray [i64 (r_Pane), i64 (r_X + min n_First (r_W - 2) + 1), i64 (r_Y), i64 (r_W - min n_First (r_W - 2) - 1), i64 (r_H)]) _ _) :: (b6, .cells (List.toArray [i64 (r_Pane), i64 (r_X), i64 (r_Y), i64 (min n_First (r_W - 2)), i64 (r_H)]) _ _) :: (b4, _) :: (b2, _) :: _) ([(0, _), (1, _), (2, _), (3, _), (4, _), (5, _), (7, _), (8, _), (9, _), (10, _), (13, _), (14, _), (15, _), (16, _), (19, _), (20, _), (21, _), (22, _), (23, _), (24, _), (25, _), (6, _)])
   ·refine WC.rH ((hs50.fb b8).d1.fb b6).d1 hs50 (fun _ hs53 => ?_)
    refine WH.rn [0, 1, 2, 3] ((hs53.fb b8).d1.fb b6).d1 [0, 1] rfl rfl (WH.o1 4 rfl (WL.st tbk hs53 3 rfl rfl (fun _ hs54 => WL.nil ⟨((hs54.fb b8).d1.fb b6).d1, WH.o1 5 rfl (WL.st tbk hs54 2 rfl rfl (fun _ hs55 => WL.nil ⟨((hs55.fb b8).d1.fb b6).d1, WH.rn [6] ((hs55.fb b8).d1.fb b6).d1 [] rfl rfl ?_⟩))⟩)))
    refine WH.dn (⟨rfl, hs55, ⟨rfl, rfl, rfl, rfl, rfl, rfl, rfl, rfl, rfl, rfl, rfl, rfl, rfl, rfl, rfl, rfl, rfl, rfl, rfl, rfl, rfl, rfl, trivial⟩⟩)
   ·rintro f_hs56 whs56 ⟨hs56, hG57⟩
    replace hs56 : St _ _ _ _ := hs56
    refine hK52 _ _ (WC.sub _ hG57 (WC.ret (retV3 rfl (resV.cellA tbk hs56 3 rfl rfl rfl rfl) (resV.cellA tbk hs56 2 rfl rfl rfl rfl) (resV.tmp rfl) (⟨congrArg Ending.returned ?_, hs56.nil⟩))))
    rw [e1, e2, e3]; rfl
theorem k52_ (f : Int) (n : Int) (w : World) (hb : -1000000 ≤ n ∧ n ≤ 1000000) :
    Calls Tryz.prog 214 #[i64 f, i64 n] w fun e w' => e = .returned (.int .i64 (min f (n - 2))) ∧ St w [] [] w' := by
 refine enter 12 Tryz.func214 rfl Tryz.ntmps214 rfl rfl ?_
 have hs1 := St.init w
 refine WC.r1 hs1 [] rfl (WC.seq (fun K2 hK2 => WC.r1 hs1 [] rfl ?_))
 refine WC.cD rfl (fun qh3 => ?_) (fun qh3 => ?_)
 ·refine WC.r1 hs1 [] rfl (WC.ret (tkR ?_))
  clear hK2
  refine rtv rfl rfl hs1 ?_
  refine congrArg (Value.int .i64) ?_; omega
 refine WC.skip (hK2 _ _ (WC.r1 hs1 [] rfl (WC.ret (rtv rfl rfl hs1 ?_))))
 refine congrArg (Value.int .i64) ?_; omega
set_option maxHeartbeats 2000000 in
theorem k53_ (m_ : Nat) : ∀ (A_t : Option Addr) (n_t c_t : Nat) (t : List NodeD) (at_ : Int) (i : Nat) (r_Pane : Int) (r_X : Int) (r_Y : Int) (r_W : Int) (r_H : Int) (S : Tr) (w : World) (f_t : SlF encNode w A_t n_t t) (hn : n_t ≤ 268435456) (hat : at_ = (i : Int)) (hS : At t i S) (hr : Fine (⟨r_Pane, r_X, r_Y, r_W, r_H⟩ : RectD)) (hm_ : S.flat.length = m_), Calls Tryz.prog 172 #[.slice A_t n_t c_t, i64 at_, .agg #[i64 r_Pane, i64 r_X, i64 r_Y, i64 r_W, i64 r_H]] w fun e w' => ∃ A c L1, e = .returned (.tuple #[.slice A ((placeS S (⟨r_Pane, r_X, r_Y, r_W, r_H⟩ : RectD)).1).length c, .bool (placeS S (⟨r_Pane, r_X, r_Y, r_W, r_H⟩ : RectD)).2]) ∧ St w [] L1 w' ∧ OwnF encRect 71 (.slice A ((placeS S (⟨r_Pane, r_X, r_Y, r_W, r_H⟩ : RectD)).1).length c) ((placeS S (⟨r_Pane, r_X, r_Y, r_W, r_H⟩ : RectD)).1) L1 := by
 induction m_ using Nat.strongRecOn with
 | ind m_ IH =>
  intro A_t n_t c_t t at_ i r_Pane r_X r_Y r_W r_H S w f_t hn hat hS hr hm_
  subst hat
  have hl := f_t.len
  have hlt := hS.lt
  have hnode := hS.ok (gat encNode t i) (by have := hS.head; exact List.mem_of_mem_head? this)
  have hpb := nodeOk_pane hnode
  obtain ⟨hr0, hr1, hr2, hr3, hr4, hr5, hr6⟩ := id hr
  simp only at hr0 hr1 hr2 hr3 hr4 hr5 hr6
  refine enter 102 Tryz.func172 rfl Tryz.ntmps172 rfl rfl ?_
  have hs1 := St.init w
  refine WC.sr (WL.bx hs1 rfl (fun b2 _ hs3 => WL.r 2 hs3 [] rfl (WL.nil (WC.sr (WL.r 2 hs3 [] rfl ?_)))))
  refine WL.val rfl rfl rfl (Run.idxN Tryz.runUnderlying56 Tryz.sizeOf103 rfl rfl rfl ?_ ?_ ?_) ?_
  · exact SlF.some_ (SlF.st0 f_t hs3)
  · omega
  · omega
  refine WL.val rfl rfl rfl (Run.loadA Tryz.isAgg103 Tryz.sizeOf103 rfl rfl (SlF.whole (SlF.st0 f_t hs3) ?_)) ?_
  · omega
  refine WL.al hs3 Tryz.zeroValue103 rfl rfl (fun b4 _ hs5 => WL.st tbk hs5 0 rfl rfl (fun _ hs6 => WL.nil (WC.seq (fun K7 hK7 => WC.r1 hs6 [0] rfl ?_))))
  refine WC.cD rfl (fun qh8 => ?_) (fun qh8 => ?_)
  ·have hlf : isSplit t i = false := by simp [isSplit]; omega
   have hSe := hS.of_leaf hlf
   subst hSe
   refine WC.sr (WL.r 3 hs6 [0] rfl (WL.st tbk hs6 1 rfl rfl (fun _ hs9 => WL.nil (WC.sr (WL.r 1 hs9 [1] rfl (WL.buildF (F := encRect) hs9 ([⟨(gat encNode t i).Pane, r_X, r_Y, r_W, r_H⟩]) Tryz.runUnderlying158 Tryz.sizeOf71 Tryz.zeroValue71 rfl rfl rfl rfl rfl rfl rfl rfl rfl rfl rfl rfl (fun A13 c14 L10 whs11 hs11 ho12 => ?_)))))))
   replace hs11 := St.back [_, _] hs11
   refine WL.r 2 hs11 [] rfl (WL.nil (WC.ret (tkR ?_)))
   clear hK7
   refine retV2 rfl (resV.tmp rfl) (resV.tmp rfl) (⟨_, _, _, rfl, (St.keep1 (hs11.fr L10)), ho12⟩)
  have hsp : isSplit t i = true := by simp [isSplit]; omega
  obtain ⟨n, a, b, rfl⟩ := hS.of_split hsp
  obtain ⟨hn', ha, hb⟩ := hS.parts
  subst hn'
  have hF : 1 ≤ (gat encNode t i).First ∧ (gat encNode t i).First ≤ 120 := by
    have := hnode; rw [nodeOk, if_pos (by simpa [isSplit] using hsp), within_iff] at this; exact this
  have hle := hS.le
  simp only [Tr.flat, List.length_cons, List.length_append] at hle
  refine WC.skip (hK7 _ _ (WC.sr (WL.r 1 hs6 [1] rfl (WL.al hs6 Tryz.zeroValue71 rfl rfl (fun b15 _ hs16 => WL.st tbk hs16 0 rfl rfl (fun _ hs17 => WL.nil (WC.sr ?_)))))))
  refine WL.r 1 hs17 [2] rfl (WL.al hs17 Tryz.zeroValue71 rfl rfl (fun b18 _ hs19 => WL.st tbk hs19 0 rfl rfl (fun _ hs20 => WL.nil (WC.seq (fun K21 hK21 => WC.r1 hs20 [2] rfl ?_)))))
  refine WC.cq rfl (fun h22 qh22 => ?_) (fun h22 qh22 => ?_)
  ·have hd : (gat encNode t i).Down = true := qh22
   refine WC.seq (fun K23 hK23 => WC.r1 hs20 [3] rfl ?_)
   refine WC.cD rfl (fun qh24 => ?_) (fun qh24 => ?_)
   ·have hpl : placeS (.split (gat encNode t i) a b) (⟨r_Pane, r_X, r_Y, r_W, r_H⟩ : RectD) = ([], false) := by
      have : ¬ 3 ≤ sizeR (gat encNode t i) (⟨r_Pane, r_X, r_Y, r_W, r_H⟩ : RectD) := by simp only [sizeR, hd]; simp; omega
      simp only [placeS, if_neg this]
    refine WC.r1 hs20 [] rfl (WC.ret (tkR (tkR ?_)))
    clear hK23 hK21
    refine retV2 rfl (resV.tmp rfl) (resV.tmp rfl) ?_
    rw [hpl]
    exact ⟨_, _, _, rfl, hs20.nil, OwnF.nil encRect 71⟩
   have hs3 : 3 ≤ sizeR (gat encNode t i) (⟨r_Pane, r_X, r_Y, r_W, r_H⟩ : RectD) := by simp only [sizeR, hd]; simp; omega
   have hfe : firstR (gat encNode t i) (⟨r_Pane, r_X, r_Y, r_W, r_H⟩ : RectD) = ⟨r_Pane, r_X, r_Y, r_W, min (gat encNode t i).First (r_H - 2)⟩ := by simp [firstR, hd]
   have hse : secondR (gat encNode t i) (⟨r_Pane, r_X, r_Y, r_W, r_H⟩ : RectD) = ⟨r_Pane, r_X, r_Y + min (gat encNode t i).First (r_H - 2) + 1, r_W, r_H - min (gat encNode t i).First (r_H - 2) - 1⟩ := by simp [secondR, hd]
   have hpl : placeS (.split (gat encNode t i) a b) (⟨r_Pane, r_X, r_Y, r_W, r_H⟩ : RectD) = ((placeS a ⟨r_Pane, r_X, r_Y, r_W, min (gat encNode t i).First (r_H - 2)⟩).1 ++ (placeS b ⟨r_Pane, r_X, r_Y + min (gat encNode t i).First (r_H - 2) + 1, r_W, r_H - min (gat encNode t i).First (r_H - 2) - 1⟩).1, (placeS a ⟨r_Pane, r_X, r_Y, r_W, min (gat encNode t i).First (r_H - 2)⟩).2 && (placeS b ⟨r_Pane, r_X, r_Y + min (gat encNode t i).First (r_H - 2) + 1, r_W, r_H - min (gat encNode t i).First (r_H - 2) - 1⟩).2) := by simp only [placeS, if_pos hs3, hfe, hse]
   refine WC.skip (hK23 _ _ (WC.sr (WL.r 4 hs20 [2, 3] rfl ?_)))
   refine WL.cl Tryz.call214 rfl (k52_ _ _ _ ?_) ?_
   · first | assumption | rfl | omega
   rintro _ whs25 ⟨rfl, hs25⟩
   replace hs25 := hs20.call0 hs25
   refine ⟨_, rfl, WL.r 1 hs25 [] rfl (WL.st tbk hs25 1 rfl rfl (fun _ hs26 => WL.nil (WC.sr (WL.r 7 hs26 [3, 1] rfl (WL.st tbk hs26 0 rfl rfl (fun _ hs27 => WL.nil ?_))))))⟩
   refine WC.region (WL.r 7 hs27 [3, 1] rfl (WL.st tbk hs27 0 rfl rfl (fun _ hs28 => WL.nil (hK21 _ _ (WC.sr (WL.r 4 hs28 [1] rfl ?_))))))
   refine WL.cl Tryz.call172 rfl (IH _ ?_ _ _ _ _ _ (i + 1) _ _ _ _ _ a _ (SlF.st0 f_t hs28) ?_ ?_ ?_ ?_ rfl) ?_
   · (rw [← hm_]; simp only [Tr.flat, List.length_cons, List.length_append]; omega)
   · exact hn
   · rfl
   · exact ha
   · exact hfe ▸ Fine.first hr hF.1 hs3
   rintro _ whs29 ⟨A30, c31, L1_32, rfl, hs29, ho33⟩
   replace hs29 := hs28.callF hs29
   refine ⟨_, rfl, ?_⟩
   replace hs29 := St.back [_, _, _, _] hs29
   refine WL.r 5 hs29 [] rfl (WL.nil (WC.seq (fun K34 hK34 => WC.rH hs29 hs29 (fun _ hs35 => ?_))))
   refine WH.rn [0, 1, 2, 3, 5] hs35 [0] rfl rfl (WH.o1 4 rfl (WL.cl Tryz.call161 rfl (k24_ _ _ _ _ (i + 1) _ (SlF.st0 f_t hs35) ?_ ?_) ?_))
   iterate 2 omega
   rintro _ whs36 ⟨rfl, hs36⟩
   replace hs36 := hs35.call0 hs36
   refine ⟨_, rfl, WL.nil ⟨hs36, WH.o1 6 rfl (WL.cl Tryz.call172 rfl (IH _ ?_ _ _ _ _ _ (i + 1 + a.flat.length) _ _ _ _ _ b _ (SlF.st0 f_t hs36) ?_ ?_ ?_ ?_ rfl) ?_)⟩⟩
   · (rw [← hm_]; simp only [Tr.flat, List.length_cons, List.length_append]; omega)
   · exact hn
   · (have := ha.sEnd; omega)
   · exact hb
   · exact hse ▸ Fine.second hr hF.1 hs3
   rintro _ whs37 ⟨A38, c39, L1_40, rfl, hs37, ho41⟩
   replace hs37 := hs36.callF hs37
   refine ⟨_, rfl, ?_⟩
   replace hs37 := St.back [_, _, _, _] hs37
   refine WL.nil ⟨(hs37.rm L1_40), WH.rn [7, 8, 9, 10, 11] (hs37.rm L1_40) [] rfl rfl (WH.dn (hK34 _ _ (WC.sr (WL.r 2 hs37 [] rfl ?_))))⟩
   refine WL.appendG (hs37.fr L1_32) ho33 (SlF.src (SlF.ofOwn ho41 (hs37.ow L1_40)) Tryz.underlying158) Tryz.underlying158 inf71 rfl rfl rfl rfl rfl rfl rfl rfl rfl rfl ?_ (fun A45 c46 L42 whs43 hs43 ho44 => ?_)
   · refine Nat.le_trans (Nat.add_le_add placeS_len placeS_len) ?_; omega
   replace hs43 := St.back [_, _, _, _] hs43
   refine WL.r 2 hs43 [] rfl (WL.pA tbk 1 Acts.nil hs43 [] rfl rfl rfl rfl (fun g_ => trivial) (WL.r 2 hs43 [] rfl (WL.nil (WC.ret (retV2 rfl (resV.tmp rfl) (resV.tmp rfl) ?_)))))
   rw [hpl]
   exact ⟨_, _, _, rfl, (St.keep1 (hs43.fr L42)), ho44⟩
  have hd : (gat encNode t i).Down = false := qh22
  refine WC.seq (fun K47 hK47 => WC.r1 hs20 [3] rfl ?_)
  refine WC.cD rfl (fun qh48 => ?_) (fun qh48 => ?_)
  ·have hpl : placeS (.split (gat encNode t i) a b) (⟨r_Pane, r_X, r_Y, r_W, r_H⟩ : RectD) = ([], false) := by
     have : ¬ 3 ≤ sizeR (gat encNode t i) (⟨r_Pane, r_X, r_Y, r_W, r_H⟩ : RectD) := by simp only [sizeR, hd]; simp; omega
     simp only [placeS, if_neg this]
   refine WC.r1 hs20 [] rfl (WC.ret (tkR (tkR ?_)))
   clear hK47 hK21
   refine retV2 rfl (resV.tmp rfl) (resV.tmp rfl) ?_
   rw [hpl]
   exact ⟨_, _, _, rfl, hs20.nil, OwnF.nil encRect 71⟩
  have hs3 : 3 ≤ sizeR (gat encNode t i) (⟨r_Pane, r_X, r_Y, r_W, r_H⟩ : RectD) := by simp only [sizeR, hd]; simp; omega
  have hfe : firstR (gat encNode t i) (⟨r_Pane, r_X, r_Y, r_W, r_H⟩ : RectD) = ⟨r_Pane, r_X, r_Y, min (gat encNode t i).First (r_W - 2), r_H⟩ := by simp [firstR, hd]
  have hse : secondR (gat encNode t i) (⟨r_Pane, r_X, r_Y, r_W, r_H⟩ : RectD) = ⟨r_Pane, r_X + min (gat encNode t i).First (r_W - 2) + 1, r_Y, r_W - min (gat encNode t i).First (r_W - 2) - 1, r_H⟩ := by simp [secondR, hd]
  have hpl : placeS (.split (gat encNode t i) a b) (⟨r_Pane, r_X, r_Y, r_W, r_H⟩ : RectD) = ((placeS a ⟨r_Pane, r_X, r_Y, min (gat encNode t i).First (r_W - 2), r_H⟩).1 ++ (placeS b ⟨r_Pane, r_X + min (gat encNode t i).First (r_W - 2) + 1, r_Y, r_W - min (gat encNode t i).First (r_W - 2) - 1, r_H⟩).1, (placeS a ⟨r_Pane, r_X, r_Y, min (gat encNode t i).First (r_W - 2), r_H⟩).2 && (placeS b ⟨r_Pane, r_X + min (gat encNode t i).First (r_W - 2) + 1, r_Y, r_W - min (gat encNode t i).First (r_W - 2) - 1, r_H⟩).2) := by simp only [placeS, if_pos hs3, hfe, hse]
  refine WC.skip (hK47 _ _ (WC.sr (WL.r 4 hs20 [2, 3] rfl ?_)))
  refine WL.cl Tryz.call214 rfl (k52_ _ _ _ ?_) ?_
  · first | assumption | rfl | omega
  rintro _ whs49 ⟨rfl, hs49⟩
  replace hs49 := hs20.call0 hs49
  refine ⟨_, rfl, WL.r 1 hs49 [] rfl (WL.st tbk hs49 1 rfl rfl (fun _ hs50 => WL.nil (WC.sr (WL.r 7 hs50 [3, 1] rfl (WL.st tbk hs50 0 rfl rfl (fun _ hs51 => WL.nil ?_))))))⟩
  refine WC.region (WL.r 7 hs51 [3, 1] rfl (WL.st tbk hs51 0 rfl rfl (fun _ hs52 => WL.nil (hK21 _ _ (WC.sr (WL.r 4 hs52 [1] rfl ?_))))))
  refine WL.cl Tryz.call172 rfl (IH _ ?_ _ _ _ _ _ (i + 1) _ _ _ _ _ a _ (SlF.st0 f_t hs52) ?_ ?_ ?_ ?_ rfl) ?_
  · (rw [← hm_]; simp only [Tr.flat, List.length_cons, List.length_append]; omega)
  · exact hn
  · rfl
  · exact ha
  · exact hfe ▸ Fine.first hr hF.1 hs3
  rintro _ whs53 ⟨A54, c55, L1_56, rfl, hs53, ho57⟩
  replace hs53 := hs52.callF hs53
  refine ⟨_, rfl, ?_⟩
  replace hs53 := St.back [_, _, _, _] hs53
  refine WL.r 5 hs53 [] rfl (WL.nil (WC.seq (fun K58 hK58 => WC.rH hs53 hs53 (fun _ hs59 => ?_))))
  refine WH.rn [0, 1, 2, 3, 5] hs59 [0] rfl rfl (WH.o1 4 rfl (WL.cl Tryz.call161 rfl (k24_ _ _ _ _ (i + 1) _ (SlF.st0 f_t hs59) ?_ ?_) ?_))
  iterate 2 omega
  rintro _ whs60 ⟨rfl, hs60⟩
  replace hs60 := hs59.call0 hs60
  refine ⟨_, rfl, WL.nil ⟨hs60, WH.o1 6 rfl (WL.cl Tryz.call172 rfl (IH _ ?_ _ _ _ _ _ (i + 1 + a.flat.length) _ _ _ _ _ b _ (SlF.st0 f_t hs60) ?_ ?_ ?_ ?_ rfl) ?_)⟩⟩
  · (rw [← hm_]; simp only [Tr.flat, List.length_cons, List.length_append]; omega)
  · exact hn
  · (have := ha.sEnd; omega)
  · exact hb
  · exact hse ▸ Fine.second hr hF.1 hs3
  rintro _ whs61 ⟨A62, c63, L1_64, rfl, hs61, ho65⟩
  replace hs61 := hs60.callF hs61
  refine ⟨_, rfl, ?_⟩
  replace hs61 := St.back [_, _, _, _] hs61
  refine WL.nil ⟨(hs61.rm L1_64), WH.rn [7, 8, 9, 10, 11] (hs61.rm L1_64) [] rfl rfl (WH.dn (hK58 _ _ (WC.sr (WL.r 2 hs61 [] rfl ?_))))⟩
  refine WL.appendG (hs61.fr L1_56) ho57 (SlF.src (SlF.ofOwn ho65 (hs61.ow L1_64)) Tryz.underlying158) Tryz.underlying158 inf71 rfl rfl rfl rfl rfl rfl rfl rfl rfl rfl ?_ (fun A69 c70 L66 whs67 hs67 ho68 => ?_)
  · refine Nat.le_trans (Nat.add_le_add placeS_len placeS_len) ?_; omega
  replace hs67 := St.back [_, _, _, _] hs67
  refine WL.r 2 hs67 [] rfl (WL.pA tbk 1 Acts.nil hs67 [] rfl rfl rfl rfl (fun g_ => trivial) (WL.r 2 hs67 [] rfl (WL.nil (WC.ret (retV2 rfl (resV.tmp rfl) (resV.tmp rfl) ?_)))))
  rw [hpl]
  exact ⟨_, _, _, rfl, (St.keep1 (hs67.fr L66)), ho68⟩
theorem k54_ (A_t : Option Addr) (n_t c_t : Nat) (t : List NodeD) (at_ : Int) (i : Nat) (r_Pane : Int) (r_X : Int) (r_Y : Int) (r_W : Int) (r_H : Int) (S : Tr) (w : World) (f_t : SlF encNode w A_t n_t t) (hn : n_t ≤ 268435456) (hat : at_ = (i : Int)) (hS : At t i S) (hr : Fine (⟨r_Pane, r_X, r_Y, r_W, r_H⟩ : RectD)) :
    Calls Tryz.prog 172 #[.slice A_t n_t c_t, i64 at_, .agg #[i64 r_Pane, i64 r_X, i64 r_Y, i64 r_W, i64 r_H]] w fun e w' => ∃ A c L1, e = .returned (.tuple #[.slice A ((placeS S (⟨r_Pane, r_X, r_Y, r_W, r_H⟩ : RectD)).1).length c, .bool (placeS S (⟨r_Pane, r_X, r_Y, r_W, r_H⟩ : RectD)).2]) ∧ St w [] L1 w' ∧ OwnF encRect 71 (.slice A ((placeS S (⟨r_Pane, r_X, r_Y, r_W, r_H⟩ : RectD)).1).length c) ((placeS S (⟨r_Pane, r_X, r_Y, r_W, r_H⟩ : RectD)).1) L1 := k53_ _ A_t n_t c_t t at_ i r_Pane r_X r_Y r_W r_H S w f_t hn hat hS hr rfl
set_option maxHeartbeats 2000000 in
theorem k55_ (m_ : Nat) : ∀ (A_t : Option Addr) (n_t c_t : Nat) (t : List NodeD) (at_ : Int) (i : Nat) (r_Pane r_X r_Y r_W r_H : Int) (S : Tr) (b_t b_o b_f b_p : Nat) (A_o : Option Addr) (c_o : Nat) (zs : List RectD) (L_o : Hp) (w : World) (f_t : SlF encNode w A_t n_t t) (g_t : SlF encH w (some ⟨b_t, 0, none⟩) 1 [⟨A_t, n_t, c_t⟩]) (g_p : SlF encFn w (some ⟨b_p, 0, none⟩) 1 [⟨.func 263, [.pointer (some ⟨b_t, 0, none⟩), .pointer (some ⟨b_o, 0, none⟩), .pointer (some ⟨b_f, 0, none⟩), .pointer (some ⟨b_p, 0, none⟩)]⟩]) (o_o : OwnF encRect 71 (.slice A_o zs.length c_o) zs L_o) (hh : ∀ p, p ∈ [(b_o, Obj.cells (List.toArray [.slice A_o (zs).length c_o]) 158 (0, 0)), (b_f, Obj.cells (List.toArray [.bool true]) 4 (0, 0))] ++ L_o → w.heap[p.1]? = some p.2) (hd : (([(b_o, Obj.cells (List.toArray [.slice A_o (zs).length c_o]) 158 (0, 0)), (b_f, Obj.cells (List.toArray [.bool true]) 4 (0, 0))] ++ L_o).map (·.1)).Nodup) (s_t : 0 < n_t → (adr A_t).block ∉ (([(b_o, Obj.cells (List.toArray [.slice A_o (zs).length c_o]) 158 (0, 0)), (b_f, Obj.cells (List.toArray [.bool true]) 4 (0, 0))] ++ L_o).map (·.1))) (v_t : 0 < 1 → (adr (some ⟨b_t, 0, none⟩)).block ∉ (([(b_o, Obj.cells (List.toArray [.slice A_o (zs).length c_o]) 158 (0, 0)), (b_f, Obj.cells (List.toArray [.bool true]) 4 (0, 0))] ++ L_o).map (·.1))) (v_p : 0 < 1 → (adr (some ⟨b_p, 0, none⟩)).block ∉ (([(b_o, Obj.cells (List.toArray [.slice A_o (zs).length c_o]) 158 (0, 0)), (b_f, Obj.cells (List.toArray [.bool true]) 4 (0, 0))] ++ L_o).map (·.1))) (hn : n_t ≤ 268435456) (hat : at_ = (i : Int)) (hS : At t i S) (hr : Fine (⟨r_Pane, r_X, r_Y, r_W, r_H⟩ : RectD)) (hz : zs.length + S.flat.length ≤ 268435456) (hm_ : S.flat.length = m_), Calls Tryz.prog 263 #[i64 at_, .agg #[i64 r_Pane, i64 r_X, i64 r_Y, i64 r_W, i64 r_H], .pointer (some ⟨b_t, 0, none⟩), .pointer (some ⟨b_o, 0, none⟩), .pointer (some ⟨b_f, 0, none⟩), .pointer (some ⟨b_p, 0, none⟩)] w fun e w' => ∃ A c L1, e = .returned (.tuple #[]) ∧ St w (([(b_o, Obj.cells (List.toArray [.slice A_o (zs).length c_o]) 158 (0, 0)), (b_f, Obj.cells (List.toArray [.bool true]) 4 (0, 0))] ++ L_o).map (·.1)) ((b_o, Obj.cells (List.toArray [.slice A (zs ++ (putL S (⟨r_Pane, r_X, r_Y, r_W, r_H⟩ : RectD)).1).length c]) 158 (0, 0)) :: (b_f, Obj.cells (List.toArray [.bool (putL S (⟨r_Pane, r_X, r_Y, r_W, r_H⟩ : RectD)).2]) 4 (0, 0)) :: L1) w' ∧ OwnF encRect 71 (.slice A (zs ++ (putL S (⟨r_Pane, r_X, r_Y, r_W, r_H⟩ : RectD)).1).length c) (zs ++ (putL S (⟨r_Pane, r_X, r_Y, r_W, r_H⟩ : RectD)).1) L1 := by
 induction m_ using Nat.strongRecOn with
 | ind m_ IH =>
  intro A_t n_t c_t t at_ i r_Pane r_X r_Y r_W r_H S b_t b_o b_f b_p A_o c_o zs L_o w f_t g_t g_p o_o hh hd s_t v_t v_p hn hat hS hr hz hm_
  subst hat
  have hl := f_t.len
  have hlt := hS.lt
  have hnode := hS.ok (gat encNode t i) (by have := hS.head; exact List.mem_of_mem_head? this)
  have hpb := nodeOk_pane hnode
  obtain ⟨hr0, hr1, hr2, hr3, hr4, hr5, hr6⟩ := id hr
  simp only at hr0 hr1 hr2 hr3 hr4 hr5 hr6
  have hst0 := St.takeN w [(b_o, Obj.cells (List.toArray [.slice A_o (zs).length c_o]) 158 (0, 0)), (b_f, Obj.cells (List.toArray [.bool true]) 4 (0, 0))] L_o hh hd
  refine enter 56 Tryz.func263 rfl Tryz.ntmps263 rfl rfl ?_
  have hs1 := hst0
  refine WC.sr (WL.bx hs1 rfl (fun b2 _ hs3 => WL.nil (WC.sr (WL.val rfl rfl rfl (Run.load Tryz.isAgg56 rfl rfl (SlF.var (v := .slice A_t n_t c_t) (SlF.st g_t hs3 v_t) rfl)) (WL.r 1 hs3 [] rfl ?_)))))
  refine WL.val rfl rfl rfl (Run.idxK (i) Tryz.runUnderlying56 Tryz.sizeOf103 rfl rfl rfl ?_ ?_ ?_) ?_
  · exact SlF.some_ (SlF.st f_t hs3 s_t)
  · omega
  · omega
  refine WL.val rfl rfl rfl (Run.fieldO Tryz.runUnderlying103 rfl rfl rfl Tryz.sizeOf3 rfl) (WL.val rfl rfl rfl (Run.load Tryz.isAgg3 rfl rfl (SlF.fld (SlF.st f_t hs3 s_t) ?_ rfl)) ?_)
  · omega
  refine WL.r 1 hs3 [] rfl (WL.st tbk hs3 0 rfl rfl (fun _ hs4 => WL.nil (WC.sr (WL.r 2 hs4 [1, 0] rfl (WL.buildSlice hs4 Tryz.runUnderlying158 Tryz.sizeOf71 Tryz.zeroValue71 rfl rfl rfl rfl rfl rfl rfl rfl rfl rfl (fun b5 whs6 hs6 => ?_))))))
  refine WL.appendG (hs6.fr L_o) o_o (srcF (F := encRect) (ys := [⟨(gat encNode t i).Pane, r_X, r_Y, r_W, r_H⟩]) Tryz.underlying158 rfl rfl (hs6.own _ (nthL_mem (i := 0) rfl)).1) Tryz.underlying158 inf71 rfl rfl rfl rfl rfl rfl rfl rfl rfl rfl ?_ (fun A10 c11 L7 whs8 hs8 ho9 => ?_)
  · simp only [List.length_cons, List.length_nil]; omega
  replace hs8 := St.back [_, _, _, _] hs8
  refine WL.st tbk hs8 2 rfl rfl (fun _ hs12 => WL.nil (WC.seq (fun K13 hK13 => WC.sr (WL.val rfl rfl rfl (Run.load Tryz.isAgg56 rfl rfl (SlF.var (v := .slice A_t n_t c_t) (SlF.st g_t hs12 v_t) rfl)) (WL.r 1 hs12 [] rfl ?_)))))
  refine WL.val rfl rfl rfl (Run.idxK (i) Tryz.runUnderlying56 Tryz.sizeOf103 rfl rfl rfl ?_ ?_ ?_) ?_
  · exact SlF.some_ (SlF.st f_t hs12 s_t)
  · omega
  · omega
  refine WL.val rfl rfl rfl (Run.loadA Tryz.isAgg103 Tryz.sizeOf103 rfl rfl (SlF.whole (SlF.st f_t hs12 s_t) ?_)) ?_
  · omega
  refine WL.cl Tryz.call168 rfl (k20_ _ _ _ _) ?_
  rintro _ whs14 ⟨rfl, hs14⟩
  replace hs14 := hs12.call0 hs14
  refine ⟨_, rfl, WL.r 1 hs14 [] rfl (WL.pO tbk 2 Acts.nil hs14 [3] rfl rfl rfl rfl (fun g_ => ⟨rfl, trivial⟩) (WL.nil (WC.cq rfl (fun h15 qh15 => ?_) (fun h15 qh15 => ?_))))⟩
  ·have hlf : isSplit t i = false := by simp at qh15; simp [isSplit]; omega
   have hSe := hS.of_leaf hlf
   subst hSe
   have hpl : putL (.leaf (gat encNode t i)) (⟨r_Pane, r_X, r_Y, r_W, r_H⟩ : RectD) = ([⟨(gat encNode t i).Pane, r_X, r_Y, r_W, r_H⟩], true) := by simp [putL]
   refine WC.ret (tkR ?_)
   clear hK13
   refine retK0' rfl ?_
   rw [hpl]
   have hx_ := OwnF.eqOf (xs := zs ++ [⟨(gat encNode t i).Pane, r_X, r_Y, r_W, r_H⟩]) ho9 (by simp)
   rw [← hx_]
   exact ⟨_, _, _, rfl, St.keep1 (St.front (L1 := (b_o, _) :: (b_f, _) :: L7) [_, _] hs14), ho9⟩
  have hsp : isSplit t i = true := by simp at qh15; simp [isSplit]; omega
  obtain ⟨n, a, b, rfl⟩ := hS.of_split hsp
  obtain ⟨hn', ha, hb⟩ := hS.parts
  subst hn'
  have hF : 1 ≤ (gat encNode t i).First ∧ (gat encNode t i).First ≤ 120 := by
    have := hnode; rw [nodeOk, if_pos (by simpa [isSplit] using hsp), within_iff] at this; exact this
  have hle := hS.le
  simp only [Tr.flat, List.length_cons, List.length_append] at hle
  have hRR : (⟨r_Pane, r_X, r_Y, r_W, r_H⟩ : RectD) = (⟨(gat encNode t i).Pane, r_X, r_Y, r_W, r_H⟩ : RectD) := by
    have h1_ : (gat encNode t i).Pane = 0 := by simpa [isSplit] using hsp
    rw [h1_, hr0]
  refine WC.skip (hK13 _ _ (WC.seq (fun K16 hK16 => ?_)))
  apply WC.join2 (fun b17 b18 => (b17, .cells (List.toArray (encRect.enc (firstR (gat encNode t i) (⟨(gat encNode t i).Pane, r_X, r_Y, r_W, r_H⟩ : RectD)))) _ _) :: (b18, .cells (List.toArray (encRect.enc (secondR (gat encNode t i) (⟨(gat encNode t i).Pane, r_X, r_Y, r_W, r_H⟩ : RectD)))) _ _) :: (b5, _) :: (b2, _) :: (b_o, _) :: (b_f, _) :: _) (fun b17 b18 => [(0, _), (1, _), (2, _), (3, _), (4, _), (5, _), (7, _), (11, _), (12, _), (13, _), (14, _), (15, _), (16, _), (17, _), (18, _), (19, _), (20, _), (21, _), (22, _), (23, _), (24, _), (25, _), (26, _), (29, _), (8, _), (9, _), (10, _)])
  ·refine WC.rH hs14 hs14 (fun _ hs19 => ?_)
   refine WH.take 0 rfl (by kernel_rfl) rfl rfl rfl hs19 (fun w_ hs_ => (Run.load Tryz.isAgg56 rfl rfl (SlF.var (v := .slice A_t n_t c_t) (SlF.st g_t (hs_ : St _ _ _ _) v_t) rfl))) ?_
   refine WH.rn [1] hs19 [] rfl rfl ?_
   refine WH.take 2 rfl (by kernel_rfl) rfl rfl rfl hs19 (fun w_ hs_ => (Run.idxK (i) Tryz.runUnderlying56 Tryz.sizeOf103 rfl rfl rfl ?_ ?_ ?_)) ?_
   · exact SlF.some_ (SlF.st f_t (hs_ : St _ _ _ _) s_t)
   · omega
   · omega
   refine WH.take 3 rfl (by kernel_rfl) rfl rfl rfl hs19 (fun w_ hs_ => (Run.loadA Tryz.isAgg103 Tryz.sizeOf103 rfl rfl (SlF.whole (SlF.st f_t (hs_ : St _ _ _ _) s_t) ?_))) ?_
   · omega
   refine WH.rn [4] hs19 [1] rfl rfl (WH.all [5, 10, 11] (by kernel_rfl) rfl (WHs.cons (i := 5) rfl ?_ (WHs.cons (i := 10) rfl ?_ (WHs.cons (i := 11) rfl ?_ WHs.nil))))
   ·refine WL.cl Tryz.call264 rfl (k51_ _ _ _ _ _ _ _ _ _ ?_) ?_
    · (refine ⟨?_, ?_, ?_, ?_, ?_, ?_, ?_, ?_, ?_, ?_⟩ <;> omega)
    rintro _ whs20 ⟨rfl, hs20⟩
    replace hs20 := hs19.call0 hs20
    refine ⟨_, rfl, WL.nil ⟨hs20, WH.rn [6, 7, 8, 9] hs20 [] rfl rfl (WH.all [10, 11] (by kernel_rfl) rfl (WHs.cons (i := 10) rfl ?_ (WHs.cons (i := 11) rfl ?_ WHs.nil)))⟩⟩
    ·refine WL.al hs20 Tryz.zeroValue71 rfl rfl (fun b21 _ hs22 => WL.nil ⟨hs22.d1, WH.o1 11 rfl (WL.al hs22 Tryz.zeroValue71 rfl rfl (fun b23 _ hs24 => WL.nil ⟨hs24.d1.d1, WH.o1 12 rfl (WL.st tbk hs24 1 rfl rfl (fun _ hs25 => WL.nil ⟨hs25.d1.d1, ?_⟩))⟩))⟩)
     refine WH.o1 13 rfl (WL.st tbk hs25 0 rfl rfl (fun _ hs26 => WL.nil ⟨hs26.d1.d1, WH.rn [14] hs26.d1.d1 [] rfl rfl (WH.dn (⟨rfl, b21, b23, (St.swap [] hs26), ⟨rfl, rfl, rfl, rfl, rfl, rfl, rfl, rfl, rfl, rfl, rfl, rfl, rfl, rfl, rfl, rfl, rfl, rfl, rfl, rfl, rfl, rfl, rfl, rfl, rfl, rfl, rfl, trivial⟩⟩))⟩))
    refine WL.al hs20 Tryz.zeroValue71 rfl rfl (fun b27 _ hs28 => WL.nil ⟨hs28.d1, WH.o1 10 rfl (WL.al hs28 Tryz.zeroValue71 rfl rfl (fun b29 _ hs30 => WL.nil ⟨hs30.d1.d1, WH.o1 12 rfl (WL.st tbk hs30 0 rfl rfl (fun _ hs31 => WL.nil ⟨hs31.d1.d1, ?_⟩))⟩))⟩)
    refine WH.o1 13 rfl (WL.st tbk hs31 1 rfl rfl (fun _ hs32 => WL.nil ⟨hs32.d1.d1, WH.rn [14] hs32.d1.d1 [] rfl rfl (WH.dn (⟨rfl, b29, b27, hs32, ⟨rfl, rfl, rfl, rfl, rfl, rfl, rfl, rfl, rfl, rfl, rfl, rfl, rfl, rfl, rfl, rfl, rfl, rfl, rfl, rfl, rfl, rfl, rfl, rfl, rfl, rfl, rfl, trivial⟩⟩))⟩))
   ·refine WL.al hs19 Tryz.zeroValue71 rfl rfl (fun b33 _ hs34 => WL.nil ⟨hs34.d1, ?_⟩)
    refine WH.all [5, 11] (by kernel_rfl) rfl (WHs.cons (i := 5) rfl ?_ (WHs.cons (i := 11) rfl ?_ WHs.nil))
    ·refine WL.cl Tryz.call264 rfl (k51_ _ _ _ _ _ _ _ _ _ ?_) ?_
     · (refine ⟨?_, ?_, ?_, ?_, ?_, ?_, ?_, ?_, ?_, ?_⟩ <;> omega)
     rintro _ whs35 ⟨rfl, hs35⟩
     replace hs35 := hs34.call0 hs35
     refine ⟨_, rfl, WL.nil ⟨hs35.d1, WH.rn [6, 7, 8, 9] hs35.d1 [] rfl rfl (WH.o1 11 rfl (WL.al hs35 Tryz.zeroValue71 rfl rfl (fun b36 _ hs37 => WL.nil ⟨hs37.d1.d1, WH.o1 12 rfl (WL.st tbk hs37 1 rfl rfl (fun _ hs38 => ?_))⟩)))⟩⟩
     refine WL.nil ⟨hs38.d1.d1, WH.o1 13 rfl (WL.st tbk hs38 0 rfl rfl (fun _ hs39 => WL.nil ⟨hs39.d1.d1, WH.rn [14] hs39.d1.d1 [] rfl rfl (WH.dn (⟨rfl, b33, b36, (St.swap [] hs39), ⟨rfl, rfl, rfl, rfl, rfl, rfl, rfl, rfl, rfl, rfl, rfl, rfl, rfl, rfl, rfl, rfl, rfl, rfl, rfl, rfl, rfl, rfl, rfl, rfl, rfl, rfl, rfl, trivial⟩⟩))⟩))⟩
    refine WL.al hs34 Tryz.zeroValue71 rfl rfl (fun b40 _ hs41 => WL.nil ⟨hs41.d1.d1, WH.o1 5 rfl ?_⟩)
    refine WL.cl Tryz.call264 rfl (k51_ _ _ _ _ _ _ _ _ _ ?_) ?_
    · (refine ⟨?_, ?_, ?_, ?_, ?_, ?_, ?_, ?_, ?_, ?_⟩ <;> omega)
    rintro _ whs42 ⟨rfl, hs42⟩
    replace hs42 := hs41.call0 hs42
    refine ⟨_, rfl, WL.nil ⟨hs42.d1.d1, WH.rn [6, 7, 8, 9] hs42.d1.d1 [] rfl rfl (WH.o1 12 rfl (WL.st tbk hs42 1 rfl rfl (fun _ hs43 => WL.nil ⟨hs43.d1.d1, WH.o1 13 rfl (WL.st tbk hs43 0 rfl rfl (fun _ hs44 => ?_))⟩)))⟩⟩
    refine WL.nil ⟨hs44.d1.d1, WH.rn [14] hs44.d1.d1 [] rfl rfl (WH.dn (⟨rfl, b33, b40, (St.swap [] hs44), ⟨rfl, rfl, rfl, rfl, rfl, rfl, rfl, rfl, rfl, rfl, rfl, rfl, rfl, rfl, rfl, rfl, rfl, rfl, rfl, rfl, rfl, rfl, rfl, rfl, rfl, rfl, rfl, trivial⟩⟩))⟩
   refine WL.al hs19 Tryz.zeroValue71 rfl rfl (fun b45 _ hs46 => WL.nil ⟨hs46.d1, ?_⟩)
   refine WH.all [5, 10] (by kernel_rfl) rfl (WHs.cons (i := 5) rfl ?_ (WHs.cons (i := 10) rfl ?_ WHs.nil))
   ·refine WL.cl Tryz.call264 rfl (k51_ _ _ _ _ _ _ _ _ _ ?_) ?_
    · (refine ⟨?_, ?_, ?_, ?_, ?_, ?_, ?_, ?_, ?_, ?_⟩ <;> omega)
    rintro _ whs47 ⟨rfl, hs47⟩
    replace hs47 := hs46.call0 hs47
    refine ⟨_, rfl, WL.nil ⟨hs47.d1, WH.rn [6, 7, 8, 9] hs47.d1 [] rfl rfl (WH.o1 10 rfl (WL.al hs47 Tryz.zeroValue71 rfl rfl (fun b48 _ hs49 => WL.nil ⟨hs49.d1.d1, WH.o1 12 rfl (WL.st tbk hs49 0 rfl rfl (fun _ hs50 => ?_))⟩)))⟩⟩
    refine WL.nil ⟨hs50.d1.d1, WH.o1 13 rfl (WL.st tbk hs50 1 rfl rfl (fun _ hs51 => WL.nil ⟨hs51.d1.d1, WH.rn [14] hs51.d1.d1 [] rfl rfl (WH.dn (⟨rfl, b48, b45, hs51, ⟨rfl, rfl, rfl, rfl, rfl, rfl, rfl, rfl, rfl, rfl, rfl, rfl, rfl, rfl, rfl, rfl, rfl, rfl, rfl, rfl, rfl, rfl, rfl, rfl, rfl, rfl, rfl, trivial⟩⟩))⟩))⟩
   refine WL.al hs46 Tryz.zeroValue71 rfl rfl (fun b52 _ hs53 => WL.nil ⟨hs53.d1.d1, WH.o1 5 rfl ?_⟩)
   refine WL.cl Tryz.call264 rfl (k51_ _ _ _ _ _ _ _ _ _ ?_) ?_
   · (refine ⟨?_, ?_, ?_, ?_, ?_, ?_, ?_, ?_, ?_, ?_⟩ <;> omega)
   rintro _ whs54 ⟨rfl, hs54⟩
   replace hs54 := hs53.call0 hs54
   refine ⟨_, rfl, WL.nil ⟨hs54.d1.d1, WH.rn [6, 7, 8, 9] hs54.d1.d1 [] rfl rfl (WH.o1 12 rfl (WL.st tbk hs54 0 rfl rfl (fun _ hs55 => WL.nil ⟨hs55.d1.d1, WH.o1 13 rfl (WL.st tbk hs55 1 rfl rfl (fun _ hs56 => ?_))⟩)))⟩⟩
   refine WL.nil ⟨hs56.d1.d1, WH.rn [14] hs56.d1.d1 [] rfl rfl (WH.dn (⟨rfl, b52, b45, hs56, ⟨rfl, rfl, rfl, rfl, rfl, rfl, rfl, rfl, rfl, rfl, rfl, rfl, rfl, rfl, rfl, rfl, rfl, rfl, rfl, rfl, rfl, rfl, rfl, rfl, rfl, rfl, rfl, trivial⟩⟩))⟩
  ·rintro f_hs57 whs57 ⟨b17, b18, hs57, hG58⟩
   replace hs57 : St _ _ _ _ := hs57
   refine hK16 _ _ (WC.sub _ hG58 (WC.seq (fun K59 hK59 => WC.sr (WL.r 1 hs57 [] rfl (WL.st tbk hs57 5 rfl rfl (fun _ hs60 => WL.nil (WC.r1 hs60 [] rfl ?_)))))))
   refine WC.cq rfl (fun h61 qh61 => ?_) (fun h61 qh61 => ?_)
   ·have hs3 : ¬ 3 ≤ sizeR (gat encNode t i) (⟨(gat encNode t i).Pane, r_X, r_Y, r_W, r_H⟩ : RectD) := by simpa using h61
    have hpl : putL (.split (gat encNode t i) a b) (⟨r_Pane, r_X, r_Y, r_W, r_H⟩ : RectD) = ([⟨(gat encNode t i).Pane, r_X, r_Y, r_W, r_H⟩], false) := by rw [hRR]; simp only [putL, if_neg hs3]
    have hdec : decide (3 ≤ sizeR (gat encNode t i) (⟨(gat encNode t i).Pane, r_X, r_Y, r_W, r_H⟩ : RectD)) = false := decide_eq_false hs3
    rw [hdec] at hs60
    refine WC.ret (tkR ?_)
    clear hK59
    refine retK0' rfl ?_
    rw [hpl]
    have hx_ := OwnF.eqOf (xs := zs ++ [⟨(gat encNode t i).Pane, r_X, r_Y, r_W, r_H⟩]) ho9 (by simp)
    rw [← hx_]
    exact ⟨_, _, _, rfl, St.keep1 (St.front (L1 := (b_o, _) :: (b_f, _) :: L7) [_, _, _, _] hs60), ho9⟩
   have hs3 : 3 ≤ sizeR (gat encNode t i) (⟨(gat encNode t i).Pane, r_X, r_Y, r_W, r_H⟩ : RectD) := by simpa using h61
   have hdec : decide (3 ≤ sizeR (gat encNode t i) (⟨(gat encNode t i).Pane, r_X, r_Y, r_W, r_H⟩ : RectD)) = true := decide_eq_true hs3
   rw [hdec] at hs60
   refine WC.skip (hK59 _ _ (WC.sr (WL.val rfl rfl rfl (Run.load Tryz.isAgg272 rfl rfl (SlF.var (SlF.st g_p hs60 v_p) rfl)) (WL.r 3 hs60 [0] rfl ?_))))
   have hF62 := St.front (L1 := (b_o, _) :: (b_f, _) :: L7) [_, _, _, _] hs60
   refine WL.call rfl rfl rfl (Run.callC Tryz.call263 rfl rfl rfl) (IH _ ?_ _ _ _ _ _ (i + 1) _ _ _ _ _ a _ _ _ _ _ _ _ _ _ (SlF.st f_t hF62 s_t) (SlF.st g_t hF62 v_t) (SlF.st g_p hF62 v_p) ho9 (St.ownA hF62) (St.nodupL hF62) (St.sepT hF62 f_t s_t) (St.sepT hF62 g_t v_t) (St.sepT hF62 g_p v_p) ?_ ?_ ?_ ?_ ?_ rfl) ?_
   · rw [← hm_]; simp only [Tr.flat, List.length_cons, List.length_append]; omega
   · exact hn
   · rfl
   · exact ha
   · exact Fine.first (hRR ▸ hr) hF.1 hs3
   · simp only [List.length_append, List.length_cons, List.length_nil]; simp only [Tr.flat, List.length_cons, List.length_append] at hz; omega
   rintro _ whs66 ⟨A63, c64, L65, rfl, hs66, ho67⟩
   replace hs66 := St.lend hF62 hs66
   replace hs66 := St.back [_, _, _, _] hs66
   simp only [List.cons_append, List.nil_append] at hs66
   refine ⟨_, rfl, WL.nil (WC.r1 hs66 [5] rfl (WC.cq rfl (fun h68 qh68 => ?_) (fun h68 qh68 => ?_)))⟩
   ·have hpl : putL (.split (gat encNode t i) a b) (⟨r_Pane, r_X, r_Y, r_W, r_H⟩ : RectD) = (⟨(gat encNode t i).Pane, r_X, r_Y, r_W, r_H⟩ :: ((putL a (firstR (gat encNode t i) (⟨(gat encNode t i).Pane, r_X, r_Y, r_W, r_H⟩ : RectD))).1 ++ (putL b (secondR (gat encNode t i) (⟨(gat encNode t i).Pane, r_X, r_Y, r_W, r_H⟩ : RectD))).1), (putL b (secondR (gat encNode t i) (⟨(gat encNode t i).Pane, r_X, r_Y, r_W, r_H⟩ : RectD))).2) := by rw [hRR]; simp only [putL, if_pos hs3, if_pos h68]
    rw [h68] at hs66
    refine WC.rH (((hs66.fb b_o).d1.fb b_f).d1.rm L65) hs66 (fun _ hs69 => ?_)
    refine WH.take 0 rfl (by kernel_rfl) rfl rfl rfl (((hs69.fb b_o).d1.fb b_f).d1.rm L65) (fun w_ hs_ => (Run.load Tryz.isAgg272 rfl rfl (SlF.var (SlF.st g_p (hs_ : St _ _ _ _) v_p) rfl))) ?_
    refine WH.take 1 rfl (by kernel_rfl) rfl rfl rfl (((hs69.fb b_o).d1.fb b_f).d1.rm L65) (fun w_ hs_ => (Run.load Tryz.isAgg56 rfl rfl (SlF.var (v := .slice A_t n_t c_t) (SlF.st g_t (hs_ : St _ _ _ _) v_t) rfl))) ?_
    refine WH.rn [2, 3, 5] (((hs69.fb b_o).d1.fb b_f).d1.rm L65) [1] rfl rfl (WH.o1 4 rfl (WL.cl Tryz.call165 rfl (k22_ _ _ _ _ _ _ (SlF.st f_t hs69 s_t) ?_) ?_))
    · first | assumption | rfl | omega
    rintro _ whs70 ⟨rfl, hs70⟩
    replace hs70 := hs69.call0 hs70
    refine ⟨_, rfl, WL.nil ⟨(((hs70.fb b_o).d1.fb b_f).d1.rm L65), WH.o1 6 rfl ?_⟩⟩
    have hF71 := St.front (L1 := (b_o, _) :: (b_f, _) :: L65) [_, _, _, _] hs70
    refine WL.call rfl rfl rfl (Run.callC Tryz.call263 rfl rfl rfl) (IH _ ?_ _ _ _ _ _ (i + 1 + a.flat.length) _ _ _ _ _ b _ _ _ _ _ _ _ _ _ (SlF.st f_t hF71 s_t) (SlF.st g_t hF71 v_t) (SlF.st g_p hF71 v_p) ho67 (St.ownA hF71) (St.nodupL hF71) (St.sepT hF71 f_t s_t) (St.sepT hF71 g_t v_t) (St.sepT hF71 g_p v_p) ?_ ?_ ?_ ?_ ?_ rfl) ?_
    · rw [← hm_]; simp only [Tr.flat, List.length_cons, List.length_append]; omega
    · exact hn
    · have h_ : endI t ((i : Int) + 1) = (i + 1 + a.flat.length : Nat) := ha.endI
      omega
    · exact hb
    · exact Fine.second (hRR ▸ hr) hF.1 hs3
    · simp only [List.length_append, List.length_cons, List.length_nil]; simp only [Tr.flat, List.length_cons, List.length_append] at hz
      refine Nat.le_trans (Nat.add_le_add_right (Nat.add_le_add_left putL_len _) _) ?_
      omega
    rintro _ whs75 ⟨A72, c73, L74, rfl, hs75, ho76⟩
    replace hs75 := St.lend hF71 hs75
    replace hs75 := St.back [_, _, _, _] hs75
    simp only [List.cons_append, List.nil_append] at hs75
    refine ⟨_, rfl, WL.nil ⟨(((hs75.fb b_o).d1.fb b_f).d1.rm L74), WH.dn (retK0 rfl ?_)⟩⟩
    rw [hpl]
    have hx_ := OwnF.eqOf (xs := zs ++ (⟨(gat encNode t i).Pane, r_X, r_Y, r_W, r_H⟩ :: ((putL a (firstR (gat encNode t i) (⟨(gat encNode t i).Pane, r_X, r_Y, r_W, r_H⟩ : RectD))).1 ++ (putL b (secondR (gat encNode t i) (⟨(gat encNode t i).Pane, r_X, r_Y, r_W, r_H⟩ : RectD))).1))) ho76 (by simp)
    rw [← hx_]
    exact ⟨_, _, _, rfl, St.keep1 (St.front (L1 := (b_o, _) :: (b_f, _) :: L74) [_, _, _, _] hs75), ho76⟩
   have hpl : putL (.split (gat encNode t i) a b) (⟨r_Pane, r_X, r_Y, r_W, r_H⟩ : RectD) = (⟨(gat encNode t i).Pane, r_X, r_Y, r_W, r_H⟩ :: (putL a (firstR (gat encNode t i) (⟨(gat encNode t i).Pane, r_X, r_Y, r_W, r_H⟩ : RectD))).1, false) := by
     have : ¬ (putL a (firstR (gat encNode t i) (⟨(gat encNode t i).Pane, r_X, r_Y, r_W, r_H⟩ : RectD))).2 = true := by simpa using h68
     rw [hRR]; simp only [putL, if_pos hs3, if_neg this]
   rw [h68] at hs66
   refine WC.skip (retK0 rfl ?_)
   rw [hpl]
   have hx_ := OwnF.eqOf (xs := zs ++ (⟨(gat encNode t i).Pane, r_X, r_Y, r_W, r_H⟩ :: (putL a (firstR (gat encNode t i) (⟨(gat encNode t i).Pane, r_X, r_Y, r_W, r_H⟩ : RectD))).1)) ho67 (by simp)
   rw [← hx_]
   exact ⟨_, _, _, rfl, St.keep1 (St.front (L1 := (b_o, _) :: (b_f, _) :: L65) [_, _, _, _] hs66), ho67⟩
theorem k56_ (A_t : Option Addr) (n_t c_t : Nat) (t : List NodeD) (at_ : Int) (i : Nat) (r_Pane r_X r_Y r_W r_H : Int) (S : Tr) (b_t b_o b_f b_p : Nat) (A_o : Option Addr) (c_o : Nat) (zs : List RectD) (L_o : Hp) (w : World) (f_t : SlF encNode w A_t n_t t) (g_t : SlF encH w (some ⟨b_t, 0, none⟩) 1 [⟨A_t, n_t, c_t⟩]) (g_p : SlF encFn w (some ⟨b_p, 0, none⟩) 1 [⟨.func 263, [.pointer (some ⟨b_t, 0, none⟩), .pointer (some ⟨b_o, 0, none⟩), .pointer (some ⟨b_f, 0, none⟩), .pointer (some ⟨b_p, 0, none⟩)]⟩]) (o_o : OwnF encRect 71 (.slice A_o zs.length c_o) zs L_o) (hh : ∀ p, p ∈ [(b_o, Obj.cells (List.toArray [.slice A_o (zs).length c_o]) 158 (0, 0)), (b_f, Obj.cells (List.toArray [.bool true]) 4 (0, 0))] ++ L_o → w.heap[p.1]? = some p.2) (hd : (([(b_o, Obj.cells (List.toArray [.slice A_o (zs).length c_o]) 158 (0, 0)), (b_f, Obj.cells (List.toArray [.bool true]) 4 (0, 0))] ++ L_o).map (·.1)).Nodup) (s_t : 0 < n_t → (adr A_t).block ∉ (([(b_o, Obj.cells (List.toArray [.slice A_o (zs).length c_o]) 158 (0, 0)), (b_f, Obj.cells (List.toArray [.bool true]) 4 (0, 0))] ++ L_o).map (·.1))) (v_t : 0 < 1 → (adr (some ⟨b_t, 0, none⟩)).block ∉ (([(b_o, Obj.cells (List.toArray [.slice A_o (zs).length c_o]) 158 (0, 0)), (b_f, Obj.cells (List.toArray [.bool true]) 4 (0, 0))] ++ L_o).map (·.1))) (v_p : 0 < 1 → (adr (some ⟨b_p, 0, none⟩)).block ∉ (([(b_o, Obj.cells (List.toArray [.slice A_o (zs).length c_o]) 158 (0, 0)), (b_f, Obj.cells (List.toArray [.bool true]) 4 (0, 0))] ++ L_o).map (·.1))) (hn : n_t ≤ 268435456) (hat : at_ = (i : Int)) (hS : At t i S) (hr : Fine (⟨r_Pane, r_X, r_Y, r_W, r_H⟩ : RectD)) (hz : zs.length + S.flat.length ≤ 268435456) :
    Calls Tryz.prog 263 #[i64 at_, .agg #[i64 r_Pane, i64 r_X, i64 r_Y, i64 r_W, i64 r_H], .pointer (some ⟨b_t, 0, none⟩), .pointer (some ⟨b_o, 0, none⟩), .pointer (some ⟨b_f, 0, none⟩), .pointer (some ⟨b_p, 0, none⟩)] w fun e w' => ∃ A c L1, e = .returned (.tuple #[]) ∧ St w (([(b_o, Obj.cells (List.toArray [.slice A_o (zs).length c_o]) 158 (0, 0)), (b_f, Obj.cells (List.toArray [.bool true]) 4 (0, 0))] ++ L_o).map (·.1)) ((b_o, Obj.cells (List.toArray [.slice A (zs ++ (putL S (⟨r_Pane, r_X, r_Y, r_W, r_H⟩ : RectD)).1).length c]) 158 (0, 0)) :: (b_f, Obj.cells (List.toArray [.bool (putL S (⟨r_Pane, r_X, r_Y, r_W, r_H⟩ : RectD)).2]) 4 (0, 0)) :: L1) w' ∧ OwnF encRect 71 (.slice A (zs ++ (putL S (⟨r_Pane, r_X, r_Y, r_W, r_H⟩ : RectD)).1).length c) (zs ++ (putL S (⟨r_Pane, r_X, r_Y, r_W, r_H⟩ : RectD)).1) L1 := k55_ _ A_t n_t c_t t at_ i r_Pane r_X r_Y r_W r_H S b_t b_o b_f b_p A_o c_o zs L_o w f_t g_t g_p o_o hh hd s_t v_t v_p hn hat hS hr hz rfl
theorem built_71_3_4 (x0 : Int) (x1 : Int) : Tryz.prog.built 71 [(3, .int .i64 x0), (4, .int .i64 x1)] = some (List.toArray [.int .i64 0, .int .i64 0, .int .i64 0, .int .i64 x0, .int .i64 x1]) := by kernel_rfl
theorem k57_ (A_t : Option Addr) (n_t c_t : Nat) (t : List NodeD) (w_ : Int) (h_ : Int) (w : World) (f_t : SlF encNode w A_t n_t t) (hn : n_t ≤ 268435456) (hk : treeOk t = true) (hw : within w_ 1 120 = true) (hh : within h_ 1 120 = true) :
    Calls Tryz.prog 215 #[.slice A_t n_t c_t, i64 w_, i64 h_] w fun e w' => ∃ A c L1, e = .returned (.tuple #[.slice A ((putL (theT t) ⟨0, 0, 0, w_, h_⟩).1).length c, .bool (putL (theT t) ⟨0, 0, 0, w_, h_⟩).2]) ∧ St w [] L1 w' ∧ OwnF encRect 71 (.slice A ((putL (theT t) ⟨0, 0, 0, w_, h_⟩).1).length c) ((putL (theT t) ⟨0, 0, 0, w_, h_⟩).1) L1 := by
 have hl := f_t.len
 refine enter 20 Tryz.func215 rfl Tryz.ntmps215 rfl rfl ?_
 have hs1 := St.init w
 refine WC.sr (WL.bx hs1 rfl (fun b2 _ hs3 => WL.r 2 hs3 [] rfl (WL.nil (WC.sr (WL.buildF (F := encRect) hs3 ([]) Tryz.runUnderlying158 Tryz.sizeOf71 Tryz.zeroValue71 rfl rfl rfl rfl rfl rfl rfl rfl rfl rfl rfl rfl (fun A7 c8 L4 whs5 hs5 ho6 => ?_))))))
 replace hs5 := St.back [_] hs5
 refine WL.al hs5 Tryz.zeroValue158 rfl rfl (fun b9 _ hs10 => WL.al hs10 Tryz.zeroValue4 rfl rfl (fun b11 _ hs12 => WL.st tbk hs12 1 rfl rfl (fun _ hs13 => WL.st tbk hs13 0 rfl rfl (fun _ hs14 => WL.nil (WC.sr (WL.al hs14 Tryz.zeroValue272 rfl rfl (fun b15 _ hs16 => WL.nil ?_)))))))
 refine WC.sr (WL.val rfl rfl rfl (Run.makeFunc rfl rfl) (WL.st tbk hs16 0 rfl rfl (fun _ hs17 => WL.nil (WC.sr (WL.r 3 hs17 [0] rfl ?_)))))
 refine WL.val rfl rfl rfl (Run.build rfl rfl rfl rfl (built_71_3_4 _ _)) ?_
 replace hs17 := ((((hs17.fb b11).fb b9).fb b2).fb b15)
 have hF18 := St.front (L1 := (b9, _) :: (b11, _) :: L4) [_, _] hs17
 refine WL.call rfl rfl rfl (Run.callC Tryz.call263 rfl rfl rfl) (k56_ _ _ _ _ _ 0 _ _ _ _ _ (theT t) _ _ _ _ _ _ _ _ _ (SlF.st0 f_t hF18) (SlF.own1 (hs17.own _ (nthL_mem (i := 1) rfl)).1) (SlF.own1 (hs17.own _ (nthL_mem (i := 0) rfl)).1) ho6 (St.ownA hF18) (St.nodupL hF18) (St.sep hF18 f_t) (fun _ => St.sepOwn hF18 (List.mem_append_left _ (List.mem_cons_of_mem _ List.mem_cons_self))) (fun _ => St.sepOwn hF18 (List.mem_append_left _ List.mem_cons_self)) ?_ ?_ ?_ ?_ ?_) ?_
 · omega
 · rfl
 · exact (theT_at hk).1
 · exact fine0 hw hh
 · rw [(theT_at hk).2.1]; simp; omega
 rintro _ whs22 ⟨A19, c20, L21, rfl, hs22, ho23⟩
 replace hs22 := St.lend hF18 hs22
 replace hs22 := St.back [_, _] hs22
 simp only [List.cons_append, List.nil_append] at hs22
 refine ⟨_, rfl, WL.nil (WC.q1 hs22 [2, 3] rfl (fun _ hs24 => WC.ret (retV2 rfl (resV.tmp rfl) (resV.tmp rfl) ?_)))⟩
 have hx_ := OwnF.eqOf (xs := (putL (theT t) ⟨0, 0, 0, w_, h_⟩).1) ho23 (by simp)
 rw [← hx_]
 first | exact ⟨_, _, _, rfl, (St.keep1 (hs24.fr L21)), ho23⟩ | exact ⟨A19, c20, _, by rw [OwnF.len_ ho23], (St.keep1 (hs24.fr L21)), by rw [OwnF.len_ ho23]; exact ho23⟩
theorem k58_ (A_t : Option Addr) (n_t c_t : Nat) (t : List NodeD) (w_ : Int) (h_ : Int) (w : World) (f_t : SlF encNode w A_t n_t t) (hn : n_t ≤ 268435456) :
    Calls Tryz.prog 173 #[.slice A_t n_t c_t, i64 w_, i64 h_] w fun e w' => ∃ A c L1, e = .returned (.tuple #[.slice A (areasL t w_ h_).length c, .bool (placesOk t w_ h_)]) ∧ St w [] L1 w' ∧ OwnF encRect 71 (.slice A (areasL t w_ h_).length c) (areasL t w_ h_) L1 := by
 have hl := f_t.len
 refine enter 27 Tryz.func173 rfl Tryz.ntmps173 rfl rfl ?_
 have hs1 := St.init w
 refine WC.r1 hs1 [] rfl (WC.seq (fun K2 hK2 => WC.sr (WL.r 1 hs1 [] rfl ?_)))
 refine WL.cl Tryz.call106 rfl (k33_ _ _ _ _ _ (SlF.st0 f_t hs1) ?_) ?_
 · first | assumption | rfl | omega
 rintro _ whs3 ⟨rfl, hs3⟩
 replace hs3 := hs1.call0 hs3
 refine ⟨_, rfl, WL.r 2 hs3 [] rfl ?_⟩
 apply WL.gO 3 Acts.nil hs3 rfl
 ·intro g4 J5
  have qg4 := g4
  try simp only [bf, within_iff, within_not] at qg4
  refine WL.runA tbk 1 (Acts.nil.cons (j := 3) rfl g4) hs3 [] rfl trivial (WL.call (wantF rfl g4) rfl rfl (Run.call Tryz.call58 rfl rfl rfl) (k0_ _ _ _ _) ?_)
  rintro _ whs6 ⟨rfl, hs6⟩
  replace hs6 := hs3.call0 hs6
  refine ⟨_, rfl, WL.runA tbk 1 (Acts.nil.cons (j := 3) rfl g4) hs6 [] rfl trivial (WL.eO 3 Acts.nil J5 hs6 g4 rfl rfl)⟩
 intro _ hs7
 refine WL.r 1 hs7 [] rfl ?_
 apply WL.gO 3 Acts.nil hs7 rfl
 ·intro g8 J9
  have qg8 := g8
  try simp only [bf, within_iff, within_not] at qg8
  refine WL.runA tbk 1 (Acts.nil.cons (j := 8) rfl g8) hs7 [] rfl trivial (WL.call (wantF rfl g8) rfl rfl (Run.call Tryz.call58 rfl rfl rfl) (k0_ _ _ _ _) ?_)
  rintro _ whs10 ⟨rfl, hs10⟩
  replace hs10 := hs7.call0 hs10
  refine ⟨_, rfl, WL.runA tbk 1 (Acts.nil.cons (j := 8) rfl g8) hs10 [] rfl trivial (WL.eO 3 Acts.nil J9 hs10 g8 rfl rfl)⟩
 intro _ hs11
 refine WL.nil (WC.cq rfl (fun h12 qh12 => ?_) (fun h12 qh12 => ?_))
 ·have hk : sidesOk t w_ h_ = false := by
    rw [← Bool.not_eq_true]; intro h_1
    simp only [sidesOk, Bool.and_eq_true] at h_1
    simp [h_1] at h12
  refine WC.r1 hs11 [] rfl (WC.ret (tkR ?_))
  clear hK2
  refine retV2 rfl (resV.tmp rfl) (resV.tmp rfl) ?_
  rw [show placesOk t w_ h_ = false by simp [placesOk, hk]]
  have hx_ := OwnF.eqOf (xs := areasL t w_ h_) (OwnF.nil encRect 71) (by simp [areasL, hk])
  rw [← hx_]
  exact ⟨_, _, _, rfl, hs11.nil, (OwnF.nil encRect 71)⟩
 have hk : treeOk t = true ∧ within w_ 1 120 = true ∧ within h_ 1 120 = true := by simp at h12; exact ⟨h12.1.1, h12.1.2, h12.2⟩
 have hs : sidesOk t w_ h_ = true := by simp [sidesOk, hk]
 refine WC.skip (hK2 _ _ (WC.sr (WL.r 3 hs11 [] rfl ?_)))
 refine WL.cl Tryz.call215 rfl (k57_ _ _ _ _ _ _ _ (SlF.st0 f_t hs11) ?_ ?_ ?_ ?_) ?_
 · omega
 · exact hk.1
 · exact hk.2.1
 · exact hk.2.2
 rintro _ whs13 ⟨A14, c15, L1_16, rfl, hs13, ho17⟩
 replace hs13 := hs11.callF hs13
 refine ⟨_, rfl, WL.r 4 hs13 [] rfl (WL.nil (WC.ret (retV2 rfl (resV.tmp rfl) (resV.tmp rfl) ?_)))⟩
 rw [show placesOk t w_ h_ = (putL (theT t) ⟨0, 0, 0, w_, h_⟩).2 by simp [placesOk, hs, put_eq hk.1]]
 have hx_ := OwnF.eqOf (xs := areasL t w_ h_) ho17 (by simp [areasL, hs])
 rw [← hx_]
 first | exact ⟨_, _, _, rfl, (St.keep1 hs13), ho17⟩ | exact ⟨A14, c15, _, by rw [OwnF.len_ ho17], (St.keep1 hs13), by rw [OwnF.len_ ho17]; exact ho17⟩
theorem k59_ (r_Pane : Int) (r_X : Int) (r_Y : Int) (r_W : Int) (r_H : Int) (w : World) :
    Calls Tryz.prog 175 #[.agg #[i64 r_Pane, i64 r_X, i64 r_Y, i64 r_W, i64 r_H]] w fun e w' => e = .returned (.bool (decide (r_Pane = 0))) ∧ St w [] [] w' := by
 refine enter 6 Tryz.func175 rfl Tryz.ntmps175 rfl rfl ?_
 have hs1 := St.init w
 refine WC.sr (WL.bx hs1 rfl (fun b2 _ hs3 => WL.r 1 hs3 [] rfl (WL.nil (WC.r1 hs3 [0] rfl (WC.ret (rtv rfl rfl hs3 ?_))))))
 rfl
theorem k60_ (A_s : Option Addr) (n_s c_s : Nat) (s : List RectD) (w : World) (f_s : SlF encRect w A_s n_s s) (hn : n_s ≤ 1099511627776) :
    Calls Tryz.prog 113 #[.slice A_s n_s c_s, .func (.func 175) #[] #[]] w fun e w' => e = .returned (.int .i64 (findI (fun r : RectD => decide (r.Pane = 0)) s)) ∧ St w [] [] w' := by
 refine enter 19 Tryz.func113 rfl Tryz.ntmps113 rfl rfl ?_
 have hs1 := St.init w
 refine WC.r1 hs1 [] rfl (WC.seq (fun K2 hK2 => WC.r1 hs1 [] rfl (WC.block ?_)))
 refine WC.lS [0, 1, 7] rfl hs1 (fun k_ f w' => ∃ (i : Nat), k_ = n_s - i ∧ (i ≤ n_s) ∧ (∀ j, j < i → (fun r : RectD => decide (r.Pane = 0)) (gat encRect s j) = false) ∧ Sub [(8, .int .i64 i)] f) ((fun (i : Nat) => n_s - i) (0)) ?_ ?_
 ·refine ⟨0, rfl, ?_, ?_, ⟨rfl, trivial⟩⟩
  · exact Nat.zero_le _
  · exact fun j hj => absurd hj (by omega)
 clear hs1
 rintro _ f w ⟨i, rfl, p0, p1, hG⟩ hF hs3
 refine WC.sub _ (hG.app hF) ?_
 clear hG hF
 refine WC.r1 hs3 [] rfl (WC.seq (fun K4 hK4 => ?_))
 refine WC.cond rfl (fun h5 => ?_) (fun h5 => ?_)
 ·have qh5 := h5
  try simp only [decide_eq_true_eq, decide_eq_false_iff_not] at qh5
  refine WC.skip (hK4 _ _ (WC.seq (fun K6 hK6 => WC.block (WC.r1 hs3 [] rfl (WC.sr (WL.r 3 hs3 [] rfl ?_))))))
  refine WL.val rfl rfl rfl (Run.idxN Tryz.runUnderlying158 Tryz.sizeOf71 rfl rfl rfl ?_ ?_ ?_) ?_
  · exact SlF.some_ (SlF.st0 f_s hs3)
  · omega
  · omega
  refine WL.val rfl rfl rfl (Run.loadA Tryz.isAgg71 Tryz.sizeOf71 rfl rfl (SlF.whole (SlF.st0 f_s hs3) ?_)) ?_
  · omega
  refine WL.cl Tryz.call175 rfl (k59_ _ _ _ _ _ _) ?_
  rintro _ whs7 ⟨rfl, hs7⟩
  replace hs7 := hs3.call0 hs7
  refine ⟨_, rfl, WL.nil (WC.cond rfl (fun h8 => ?_) (fun h8 => ?_))⟩
  ·have qh8 := h8
   try simp only [decide_eq_true_eq, decide_eq_false_iff_not] at qh8
   refine WC.r1 hs7 [] rfl (WC.ret (ibR (tkR (tkR (ibR (tkR ?_))))))
   clear hK6 hK2
   refine rtv rfl rfl hs7 ?_
   rw [findI_some (F := encRect) (by rw [f_s.len]; omega) p1 h8]
  have qh8 := h8
  try simp only [decide_eq_true_eq, decide_eq_false_iff_not] at qh8
  refine WC.skip (hK6 _ _ (WC.region (WL.r 2 hs7 [] rfl (WL.nil (tkN ?_)))))
  refine ⟨sbF rfl, hs7, _, ?_, i + 1, rfl, ?_, ?_, ⟨rfl, trivial⟩⟩
  · omega
  · omega
  · intro j hj; rcases Nat.lt_or_ge j i with h_ | h_
    · exact p1 j h_
    · obtain rfl : j = i := by omega
      exact h8
 have qh5 := h5
 try simp only [decide_eq_true_eq, decide_eq_false_iff_not] at qh5
 refine WC.exit (hK2 _ _ (WC.r1 hs3 [] rfl (WC.ret (rtv rfl rfl hs3 ?_))))
 rw [findI_none (F := encRect) (fun j hj => p1 j (by rw [f_s.len] at hj; omega))]
theorem k61_ (v_s : Value) (s : List RectD) (L_s : Hp) (w : World) (o_s : OwnF encRect 71 v_s s L_s) (h_s : Hh w L_s) (hn : s.length ≤ 268435456) :
    Calls Tryz.prog 174 #[v_s, .func (.func 175) #[] #[]] w fun e w' => ∃ A c L1, e = .returned (.slice A (s.filter (fun r : RectD => !decide (r.Pane = 0))).length c) ∧ St w (L_s.map (·.1)) L1 w' ∧ OwnF encRect 71 (.slice A (s.filter (fun r : RectD => !decide (r.Pane = 0))).length c) (s.filter (fun r : RectD => !decide (r.Pane = 0))) L1 := by
 obtain ⟨A_s, c_s, rfl⟩ := o_s.shape
 refine enter 42 Tryz.func174 rfl Tryz.ntmps174 rfl rfl ?_
 have hs1 := St.lent1 w L_s o_s h_s
 refine WC.r1 hs1 [] rfl (WC.sr (WL.r 2 hs1 [] rfl (WL.cl Tryz.call113 rfl (k60_ _ _ _ _ _ (SlF.ofOwn o_s (hs1.ow L_s)) ?_) ?_)))
 · first | assumption | rfl | omega
 rintro _ whs2 ⟨rfl, hs2⟩
 replace hs2 := hs1.call0 hs2
 refine ⟨_, rfl, WL.r 1 hs2 [] rfl (WL.nil (WC.seq (fun K3 hK3 => WC.r1 hs2 [] rfl ?_)))⟩
 refine WC.cq rfl (fun h4 qh4 => ?_) (fun h4 qh4 => ?_)
 ·have hall : s.filter (fun r : RectD => !decide (r.Pane = 0)) = s := by
    rcases findI_cases (p := fun r : RectD => decide (r.Pane = 0)) (xs := s) with ⟨_, h1_⟩ | ⟨i1, _, h1_, _⟩
    · exact filter_none h1_
    · omega
  refine WC.r1 hs2 [] rfl (WC.ret (tkR ?_))
  clear hK3
  refine retV1 rfl (resV.tmp rfl) ?_
  have hx_ := OwnF.eqOf (xs := s.filter (fun r : RectD => !decide (r.Pane = 0))) o_s (by rw [hall])
  rw [← hx_]
  first | exact ⟨_, _, _, rfl, (St.keep1 hs2), o_s⟩ | exact ⟨A_s, c_s, _, by rw [OwnF.len_ o_s], (St.keep1 hs2), by rw [OwnF.len_ o_s]; exact o_s⟩
 obtain ⟨i0, hi0, hf0, hp0, hb0⟩ : ∃ i0 : Nat, ∃ hi : i0 < s.length, findI (fun r : RectD => decide (r.Pane = 0)) s = (i0 : Int) ∧ decide (s[i0].Pane = 0) = true ∧ ∀ j (hj : j < i0), decide ((s[j]'(by omega)).Pane = 0) = false := by
   rcases findI_cases (p := fun r : RectD => decide (r.Pane = 0)) (xs := s) with ⟨h1_, _⟩ | ⟨i1, hi, h1_, h2_, h3_⟩
   · omega
   · exact ⟨i1, hi, h1_, h2_, h3_⟩
 rw [hf0]
 have hinit : s.take i0 = (s.take (i0 + 1)).filter (fun r : RectD => !decide (r.Pane = 0)) := by
   rw [filter_take (F := encRect) hi0]
   have hg : gat encRect s i0 = s[i0] := by have e_ := gat_get (F := encRect) hi0; rw [List.getElem?_eq_getElem hi0] at e_; exact (Option.some.inj e_).symm
   rw [if_neg (by rw [hg]; simpa using hp0), List.append_nil, filter_none]
   intro x hx
   obtain ⟨j, hj, rfl⟩ := List.mem_iff_getElem.1 hx
   rw [List.length_take] at hj
   rw [List.getElem_take]
   exact hb0 j (by omega)
 refine WC.skip (hK3 _ _ (WC.seq (fun K5 hK5 => WC.r1 hs2 [] rfl (WC.block ?_))))
 refine WC.lO [1, 4, 12] rfl hs2 (fun k_ f L_ => ∃ (zs : List RectD) (i j : Nat), k_ = s.length - j ∧ (i < j) ∧ (j ≤ s.length) ∧ (zs.length = s.length) ∧ (zs.take i = (s.take j).filter (fun r : RectD => !decide (r.Pane = 0))) ∧ (∀ k, j ≤ k → gat encRect zs k = gat encRect s k) ∧ OwnF encRect 71 (.slice A_s (s.length) c_s) (zs) L_ ∧ Sub [(0, .slice A_s (s.length) c_s), (5, .int .i64 i), (6, .int .i64 j)] f) (((fun (zs : List RectD) (i j : Nat) => s.length - j) (s) (i0) ((i0 + 1)))) ?_ ?_
 ·refine ⟨s, i0, (i0 + 1), rfl, ?_, ?_, ?_, ?_, ?_, o_s, ⟨rfl, rfl, rfl, trivial⟩⟩
  · omega
  · omega
  · rfl
  · exact hinit
  · exact fun k _ => rfl
 clear hs2
 rintro _ f w L8 ⟨zs, i, j, rfl, p0, p1, p2, p3, p4, ho9, hG⟩ hF hs10
 refine WC.sub _ (hG.app hF) ?_
 clear hG hF
 refine WC.seq (fun K11 hK11 => WC.r1 hs10 [] rfl ?_)
 refine WC.cq rfl (fun h12 qh12 => ?_) (fun h12 qh12 => ?_)
 ·refine WC.skip (hK11 _ _ (WC.seq (fun K13 hK13 => WC.block (WC.sr (WL.r 2 hs10 [] rfl ?_)))))
  refine WL.val rfl rfl rfl (Run.idxN Tryz.runUnderlying158 Tryz.sizeOf71 rfl rfl rfl ?_ ?_ ?_) ?_
  · exact SlF.some_ (SlF.ofOwn ho9 (hs10.ow L8))
  · omega
  · omega
  refine WL.val rfl rfl rfl (Run.loadA Tryz.isAgg71 Tryz.sizeOf71 rfl rfl (SlF.whole (SlF.ofOwn ho9 (hs10.ow L8)) ?_)) ?_
  · omega
  refine WL.al hs10 Tryz.zeroValue71 rfl rfl (fun b14 _ hs15 => WL.st tbk hs15 0 rfl rfl (fun _ hs16 => WL.nil (WC.sr (WL.r 2 hs16 [0] rfl (WL.cl Tryz.call175 rfl (k59_ _ _ _ _ _ _) ?_)))))
  rintro _ whs17 ⟨rfl, hs17⟩
  replace hs17 := hs16.call0 hs17
  refine ⟨_, rfl, WL.r 1 hs17 [] rfl (WL.nil (WC.cq rfl (fun h18 qh18 => ?_) (fun h18 qh18 => ?_)))⟩
  ·refine WC.sr (WL.r 3 hs17 [0] rfl (WL.val rfl rfl rfl (Run.idxN Tryz.runUnderlying158 Tryz.sizeOf71 rfl rfl rfl ?_ ?_ ?_) ?_))
   · exact SlF.some_ (SlF.ofOwn ho9 (hs17.ow L8))
   · omega
   · omega
   refine WL.storeF1 (x' := (gat encRect zs j)) (hs17.fr L8) ho9 Tryz.sizeOf71 rfl rfl rfl rfl rfl rfl rfl rfl rfl ?_ rfl (fun L19 whs20 hs20 ho21 _ => ?_)
   · omega
   replace hs20 := St.back [_] hs20
   refine WL.nil (WC.region (WL.r 3 hs20 [] rfl (WL.nil (hK13 _ _ (WC.region (WL.r 3 hs20 [] rfl (WL.nil ?_)))))))
   refine tkN ?_
   replace hs20 := hs20.d1
   refine ⟨sbF rfl, _, hs20, _, ?_, _, (i + 1), (j + 1), rfl, ?_, ?_, ?_, ?_, ?_, ho21, ⟨rfl, rfl, rfl, trivial⟩⟩
   · omega
   · omega
   · omega
   · first | omega | (rw [List.length_set]; omega)
   · first | (rw [set_take (by omega), p3, filter_take (F := encRect) (by omega), if_pos (by rw [← p4 j (Nat.le_refl _)]; simpa using h18), p4 j (Nat.le_refl _)]) | (rw [p3, filter_take (F := encRect) (by omega), if_neg (by rw [← p4 j (Nat.le_refl _)]; simpa using h18), List.append_nil])
   · intro k hk; first | (rw [gat_set_ne (by omega)]; exact p4 k (by omega)) | exact p4 k (by omega)
  refine WC.skip (hK13 _ _ (WC.region (WL.r 3 hs17 [] rfl (WL.nil (tkN ?_)))))
  replace hs17 := hs17.d1
  refine ⟨sbF rfl, _, hs17, _, ?_, _, i, (j + 1), rfl, ?_, ?_, ?_, ?_, ?_, ho9, ⟨rfl, rfl, rfl, trivial⟩⟩
  · omega
  · omega
  · omega
  · first | omega | (rw [List.length_set]; omega)
  · first | (rw [set_take (by omega), p3, filter_take (F := encRect) (by omega), if_pos (by rw [← p4 j (Nat.le_refl _)]; simpa using h18), p4 j (Nat.le_refl _)]) | (rw [p3, filter_take (F := encRect) (by omega), if_neg (by rw [← p4 j (Nat.le_refl _)]; simpa using h18), List.append_nil])
  · intro k hk; first | (rw [gat_set_ne (by omega)]; exact p4 k (by omega)) | exact p4 k (by omega)
 refine WC.exit (hK5 _ _ (WC.sr (WL.r 2 hs10 [] rfl ?_)))
 have hc_ := OwnF.cap ho9
 refine WL.val rfl rfl rfl (Run.sliceL (i) Tryz.runUnderlying158 Tryz.sizeOf71 rfl rfl rfl ?_ ?_) ?_
 · first | rfl | (omega)
 · refine ⟨?_, ?_, ?_⟩ <;> (omega)
 refine WL.clearF (lo := i) hs10 ho9 Tryz.underlying158 Tryz.zeroValue71 rfl rfl rfl rfl rfl ?_ (fun L22 whs23 hs23 ho24 _ => ?_)
 · omega
 refine WL.nil (WC.sr (WL.r 2 hs23 [] rfl ?_))
 have ho25 := OwnF.take (k := i) ho24 (by omega)
 have hcho25 := OwnF.cap ho25
 refine WL.val rfl rfl rfl (Run.sliceH0 (i) Tryz.runUnderlying158 Tryz.sizeOf71 rfl rfl rfl ?_ ?_) ?_
 · first | rfl | (omega)
 · first | (exact Nat.zero_le _) | (omega)
 refine WL.r 1 hs23 [] rfl (WL.nil (WC.ret (retV1 rfl (resV.tmp rfl) ?_)))
 have hx_ := OwnF.eqOf (xs := s.filter (fun r : RectD => !decide (r.Pane = 0))) ho25 (by first | (rw [List.take_left' (by rw [List.length_take]; omega), p3, List.take_of_length_le (by omega)]) | (rw [List.take_append_of_le_length (by rw [List.length_take]; omega), List.take_take, Nat.min_self, p3, List.take_of_length_le (by omega)]))
 rw [← hx_]
 first | exact ⟨_, _, _, rfl, (St.keep1 hs23), ho25⟩ | exact ⟨A_s, c_s, _, by rw [OwnF.len_ ho25], (St.keep1 hs23), by rw [OwnF.len_ ho25]; exact ho25⟩
theorem k62_ (A_t : Option Addr) (n_t c_t : Nat) (t : List NodeD) (w_ : Int) (h_ : Int) (w : World) (f_t : SlF encNode w A_t n_t t) (hn : n_t ≤ 268435456) :
    Calls Tryz.prog 112 #[.slice A_t n_t c_t, i64 w_, i64 h_] w fun e w' => ∃ A c L1, e = .returned (.tuple #[.slice A (placesL t w_ h_).length c, .bool (placesOk t w_ h_)]) ∧ St w [] L1 w' ∧ OwnF encRect 71 (.slice A (placesL t w_ h_).length c) (placesL t w_ h_) L1 := by
 have hal := areasL_len t w_ h_
 refine enter 21 Tryz.func112 rfl Tryz.ntmps112 rfl rfl ?_
 have hs1 := St.init w
 refine WC.r1 hs1 [] rfl (WC.sr (WL.r 3 hs1 [] rfl (WL.cl Tryz.call173 rfl (k58_ _ _ _ _ _ _ _ (SlF.st0 f_t hs1) ?_) ?_)))
 · first | assumption | rfl | omega
 rintro _ whs2 ⟨A3, c4, L1_5, rfl, hs2, ho6⟩
 replace hs2 := hs1.callF hs2
 refine ⟨_, rfl, WL.r 5 hs2 [] rfl (WL.nil (WC.seq (fun K7 hK7 => WC.r1 hs2 [] rfl ?_)))⟩
 refine WC.cq rfl (fun h8 qh8 => ?_) (fun h8 qh8 => ?_)
 ·have hk : placesOk t w_ h_ = false := by simpa using h8
  refine WC.r1 hs2 [] rfl (WC.ret (tkR ?_))
  clear hK7
  refine retV2 rfl (resV.tmp rfl) (resV.tmp rfl) ?_
  rw [hk]
  have hx_ := OwnF.eqOf (xs := placesL t w_ h_) (OwnF.nil encRect 71) (by simp [placesL, hk])
  rw [← hx_]
  exact ⟨_, _, _, rfl, hs2.nil, (OwnF.nil encRect 71)⟩
 have hk : placesOk t w_ h_ = true := by simpa using h8
 have haf := areas_filter hk
 refine WC.skip (hK7 _ _ (WC.sr (WL.r 1 hs2 [] rfl ?_)))
 refine WL.cl Tryz.call174 rfl (k61_ _ _ _ _ ho6 (hs2.ow L1_5) ?_) ?_
 · first | assumption | rfl | omega
 rintro _ whs9 ⟨A10, c11, L1_12, rfl, hs9, ho13⟩
 replace hs9 := St.lend hs2 hs9
 refine ⟨_, rfl, WL.r 2 hs9 [] rfl (WL.nil (WC.ret (retV2 rfl (resV.tmp rfl) (resV.tmp rfl) ?_)))⟩
 rw [hk]
 have hx_ := OwnF.eqOf (xs := placesL t w_ h_) ho13 (by rw [haf])
 rw [← hx_]
 first | exact ⟨_, _, _, rfl, (St.keep1 hs9), ho13⟩ | exact ⟨A10, c11, _, by rw [OwnF.len_ ho13], (St.keep1 hs9), by rw [OwnF.len_ ho13]; exact ho13⟩
theorem k63_ (A_t : Option Addr) (n_t c_t : Nat) (t : List NodeD) (w_ : Int) (h_ : Int) (w : World) (f_t : SlF encNode w A_t n_t t) (hn : n_t ≤ 268435456) :
    Calls Tryz.prog 111 #[.slice A_t n_t c_t, i64 w_, i64 h_] w fun e w' => ∃ A c L1, e = .returned (.tuple #[.slice A (placesL t w_ h_).length c, .bool (placesOk t w_ h_)]) ∧ St w [] L1 w' ∧ OwnF encRect 71 (.slice A (placesL t w_ h_).length c) (placesL t w_ h_) L1 := by
 have hl := f_t.len
 refine enter 40 Tryz.func111 rfl Tryz.ntmps111 rfl rfl ?_
 have hs1 := St.init w
 refine WC.r1 hs1 [] rfl (WC.seq (fun K2 hK2 => WC.sr (WL.r 1 hs1 [] rfl ?_)))
 refine WL.cl Tryz.call101 rfl (k29_ _ _ _ _ _ (SlF.st0 f_t hs1) ?_) ?_
 · first | assumption | rfl | omega
 rintro _ whs3 ⟨rfl, hs3⟩
 replace hs3 := hs1.call0 hs3
 refine ⟨_, rfl, WL.r 2 hs3 [] rfl (WL.pO tbk 2 Acts.nil hs3 [] rfl rfl rfl rfl (fun g_ => trivial) (WL.r 1 hs3 [] rfl (WL.pO tbk 2 Acts.nil hs3 [] rfl rfl rfl rfl (fun g_ => trivial) (WL.r 1 hs3 [] rfl (WL.pO tbk 2 Acts.nil hs3 [] rfl rfl rfl rfl (fun g_ => trivial) (WL.r 1 hs3 [] rfl ?_))))))⟩
 refine WL.pO tbk 2 Acts.nil hs3 [] rfl rfl rfl rfl (fun g_ => trivial) (WL.nil (WC.cq rfl (fun h4 qh4 => ?_) (fun h4 qh4 => ?_)))
 ·have hk : placesOk t w_ h_ = false := by
    rw [← Bool.not_eq_true]; intro h_1
    simp only [placesOk, sidesOk, Bool.and_eq_true, within_iff] at h_1
    obtain ⟨⟨⟨a1_, a2_⟩, a3_⟩, _⟩ := h_1
    simp only [a1_, Bool.not_true, Bool.false_or, Bool.or_eq_true, decide_eq_true_eq] at h4; omega
  refine WC.r1 hs3 [] rfl (WC.ret (tkR ?_))
  clear hK2
  refine retV2 rfl (resV.tmp rfl) (resV.tmp rfl) ?_
  rw [hk]
  have hx_ := OwnF.eqOf (xs := placesL t w_ h_) (OwnF.nil encRect 71) (by simp [placesL, hk])
  rw [← hx_]
  exact ⟨_, _, _, rfl, hs3.nil, (OwnF.nil encRect 71)⟩
 have hs : treeOk t = true ∧ within w_ 1 120 = true ∧ within h_ 1 120 = true := by
   simp only [Bool.or_eq_false_iff, Bool.not_eq_false', decide_eq_false_iff_not] at h4
   exact ⟨h4.1.1.1.1, within_iff.2 ⟨by omega, by omega⟩, within_iff.2 ⟨by omega, by omega⟩⟩
 have hso : sidesOk t w_ h_ = true := by simp [sidesOk, hs]
 refine WC.skip (hK2 _ _ (WC.sr (WL.r 3 hs3 [] rfl ?_)))
 refine WL.val rfl rfl rfl (Run.build rfl rfl rfl rfl (built_71_3_4 _ _)) (WL.cl Tryz.call172 rfl (k54_ _ _ _ _ _ 0 _ _ _ _ _ (theT t) _ (SlF.st0 f_t hs3) ?_ ?_ ?_ ?_) ?_)
 · omega
 · rfl
 · exact (theT_at hs.1).1
 · exact fine0 hs.2.1 hs.2.2
 rintro _ whs5 ⟨A6, c7, L1_8, rfl, hs5, ho9⟩
 replace hs5 := hs3.callF hs5
 refine ⟨_, rfl, WL.r 5 hs5 [] rfl (WL.nil (WC.seq (fun K10 hK10 => WC.r1 hs5 [] rfl ?_)))⟩
 refine WC.cq rfl (fun h11 qh11 => ?_) (fun h11 qh11 => ?_)
 ·have hk : placesOk t w_ h_ = false := by simpa [placesOk, hso] using h11
  refine WC.r1 hs5 [] rfl (WC.ret (tkR ?_))
  clear hK10
  refine retV2 rfl (resV.tmp rfl) (resV.tmp rfl) ?_
  rw [hk]
  have hx_ := OwnF.eqOf (xs := placesL t w_ h_) (OwnF.nil encRect 71) (by simp [placesL, hk])
  rw [← hx_]
  exact ⟨_, _, _, rfl, hs5.nil, (OwnF.nil encRect 71)⟩
 have hk : placesOk t w_ h_ = true := by simpa [placesOk, hso] using h11
 refine WC.skip (hK10 _ _ (WC.r1 hs5 [] rfl (WC.ret (retV2 rfl (resV.tmp rfl) (resV.tmp rfl) ?_))))
 rw [hk]
 have hx_ := OwnF.eqOf (xs := placesL t w_ h_) ho9 (by simp [placesL, hk])
 rw [← hx_]
 first | exact ⟨_, _, _, rfl, (St.keep1 hs5), ho9⟩ | exact ⟨A6, c7, _, by rw [OwnF.len_ ho9], (St.keep1 hs5), by rw [OwnF.len_ ho9]; exact ho9⟩
theorem built_71 : Tryz.prog.built 71 [] = some (List.toArray [.int .i64 0, .int .i64 0, .int .i64 0, .int .i64 0, .int .i64 0]) := by kernel_rfl
theorem k64_ (r_Pane : Int) (r_X : Int) (r_Y : Int) (r_W : Int) (r_H : Int) (b_p : Nat) (p : Int) (w : World) (f_p : SlF encI w (some ⟨b_p, 0, none⟩) 1 [p]) :
    Calls Tryz.prog 114 #[.agg #[i64 r_Pane, i64 r_X, i64 r_Y, i64 r_W, i64 r_H], .pointer (some ⟨b_p, 0, none⟩)] w fun e w' => e = .returned (.bool (decide (r_Pane = p))) ∧ St w [] [] w' := by
 refine enter 8 Tryz.func114 rfl Tryz.ntmps114 rfl rfl ?_
 have hs1 := St.init w
 refine WC.sr (WL.bx hs1 rfl (fun b2 _ hs3 => WL.r 1 hs3 [] rfl (WL.nil (WC.sr (WL.r 2 hs3 [0] rfl (WL.val rfl rfl rfl (Run.load Tryz.isAgg3 rfl rfl (SlF.var (SlF.st0 f_p hs3) rfl)) (WL.r 2 hs3 [] rfl ?_)))))))
 refine WL.nil (WC.ret (rtv rfl rfl hs3 ?_))
 rfl
theorem k65_ (A_s : Option Addr) (n_s c_s : Nat) (s : List RectD) (b_p : Nat) (p : Int) (w : World) (f_s : SlF encRect w A_s n_s s) (f_p : SlF encI w (some ⟨b_p, 0, none⟩) 1 [p]) (hn : n_s ≤ 1099511627776) :
    Calls Tryz.prog 113 #[.slice A_s n_s c_s, .func (.func 114) #[] #[.pointer (some ⟨b_p, 0, none⟩)]] w fun e w' => e = .returned (.int .i64 (findI (fun r : RectD => decide (r.Pane = p)) s)) ∧ St w [] [] w' := by
 refine enter 19 Tryz.func113 rfl Tryz.ntmps113 rfl rfl ?_
 have hs1 := St.init w
 refine WC.r1 hs1 [] rfl (WC.seq (fun K2 hK2 => WC.r1 hs1 [] rfl (WC.block ?_)))
 refine WC.lS [0, 1, 7] rfl hs1 (fun k_ f w' => ∃ (i : Nat), k_ = n_s - i ∧ (i ≤ n_s) ∧ (∀ j, j < i → (fun r : RectD => decide (r.Pane = p)) (gat encRect s j) = false) ∧ Sub [(8, .int .i64 i)] f) ((fun (i : Nat) => n_s - i) (0)) ?_ ?_
 ·refine ⟨0, rfl, ?_, ?_, ⟨rfl, trivial⟩⟩
  · exact Nat.zero_le _
  · exact fun j hj => absurd hj (by omega)
 clear hs1
 rintro _ f w ⟨i, rfl, p0, p1, hG⟩ hF hs3
 refine WC.sub _ (hG.app hF) ?_
 clear hG hF
 refine WC.r1 hs3 [] rfl (WC.seq (fun K4 hK4 => ?_))
 refine WC.cond rfl (fun h5 => ?_) (fun h5 => ?_)
 ·have qh5 := h5
  try simp only [decide_eq_true_eq, decide_eq_false_iff_not] at qh5
  refine WC.skip (hK4 _ _ (WC.seq (fun K6 hK6 => WC.block (WC.r1 hs3 [] rfl (WC.sr (WL.r 3 hs3 [] rfl ?_))))))
  refine WL.val rfl rfl rfl (Run.idxN Tryz.runUnderlying158 Tryz.sizeOf71 rfl rfl rfl ?_ ?_ ?_) ?_
  · exact SlF.some_ (SlF.st0 f_s hs3)
  · omega
  · omega
  refine WL.val rfl rfl rfl (Run.loadA Tryz.isAgg71 Tryz.sizeOf71 rfl rfl (SlF.whole (SlF.st0 f_s hs3) ?_)) ?_
  · omega
  refine WL.call rfl rfl rfl (Run.callC Tryz.call114 rfl rfl rfl) (k64_ _ _ _ _ _ _ _ _ (SlF.st0 f_p hs3)) ?_
  rintro _ whs7 ⟨rfl, hs7⟩
  replace hs7 := hs3.call0 hs7
  refine ⟨_, rfl, WL.nil (WC.cond rfl (fun h8 => ?_) (fun h8 => ?_))⟩
  ·have qh8 := h8
   try simp only [decide_eq_true_eq, decide_eq_false_iff_not] at qh8
   refine WC.r1 hs7 [] rfl (WC.ret (ibR (tkR (tkR (ibR (tkR ?_))))))
   clear hK6 hK2
   refine rtv rfl rfl hs7 ?_
   rw [findI_some (F := encRect) (by rw [f_s.len]; omega) p1 h8]
  have qh8 := h8
  try simp only [decide_eq_true_eq, decide_eq_false_iff_not] at qh8
  refine WC.skip (hK6 _ _ (WC.region (WL.r 2 hs7 [] rfl (WL.nil (tkN ?_)))))
  refine ⟨sbF rfl, hs7, _, ?_, i + 1, rfl, ?_, ?_, ⟨rfl, trivial⟩⟩
  · omega
  · omega
  · intro j hj; rcases Nat.lt_or_ge j i with h_ | h_
    · exact p1 j h_
    · obtain rfl : j = i := by omega
      exact h8
 have qh5 := h5
 try simp only [decide_eq_true_eq, decide_eq_false_iff_not] at qh5
 refine WC.exit (hK2 _ _ (WC.r1 hs3 [] rfl (WC.ret (rtv rfl rfl hs3 ?_))))
 rw [findI_none (F := encRect) (fun j hj => p1 j (by rw [f_s.len] at hj; omega))]
theorem k66_ (A_t : Option Addr) (n_t c_t : Nat) (t : List NodeD) (w_ : Int) (h_ : Int) (p : Int) (w : World) (f_t : SlF encNode w A_t n_t t) (hn : n_t ≤ 268435456) :
    Calls Tryz.prog 52 #[.slice A_t n_t c_t, i64 w_, i64 h_, i64 p] w fun e w' => e = .returned (.tuple #[.agg (encRect.enc (placeR t w_ h_ p)).toArray, .bool (decide (0 ≤ placeAt t w_ h_ p))]) ∧ St w [] [] w' := by
 have hpl := placesL_len t w_ h_
 have hpa := placeAt_lt t w_ h_ p
 refine enter 30 Tryz.func52 rfl Tryz.ntmps52 rfl rfl ?_
 have hs1 := St.init w
 refine WC.sr (WL.bx hs1 rfl (fun b2 _ hs3 => WL.al hs3 Tryz.zeroValue71 rfl rfl (fun b4 _ hs5 => WL.r 1 hs5 [] rfl (WL.nil (WC.sr (WL.r 3 hs5 [] rfl ?_))))))
 refine WL.cl Tryz.call112 rfl (k62_ _ _ _ _ _ _ _ (SlF.st0 f_t hs5) ?_) ?_
 · first | assumption | rfl | omega
 rintro _ whs6 ⟨A7, c8, L1_9, rfl, hs6, ho10⟩
 replace hs6 := hs5.callF hs6
 refine ⟨_, rfl, ?_⟩
 replace hs6 := St.back [_, _] hs6
 refine WL.r 5 hs6 [] rfl (WL.nil (WC.sr (WL.r 1 hs6 [] rfl (WL.val rfl rfl rfl (Run.makeFunc rfl rfl) (WL.cl Tryz.call113 rfl (k65_ _ _ _ _ _ _ _ (SlF.ofOwn ho10 (hs6.ow L1_9)) (SlF.own1 (hs6.own _ (nthL_mem (i := 1) rfl)).1) ?_) ?_)))))
 · first | assumption | rfl | omega
 rintro _ whs11 ⟨rfl, hs11⟩
 replace hs11 := hs6.call0 hs11
 refine ⟨_, rfl, WL.r 1 hs11 [] rfl (WL.nil (WC.seq (fun K12 hK12 => WC.r1 hs11 [] rfl ?_)))⟩
 refine WC.cD rfl (fun qh13 => ?_) (fun qh13 => ?_)
 ·have hk : ¬ 0 ≤ placeAt t w_ h_ p := by show ¬ 0 ≤ findI _ _; omega
  refine WC.sr ?_
  refine WL.val rfl rfl rfl (Run.build rfl rfl rfl rfl (built_71)) (WL.st tbk hs11 0 rfl rfl (fun _ hs14 => WL.r 1 hs14 [] rfl (WL.nil (WC.ret (tkR ?_)))))
  clear hK12
  refine retV2 rfl (resV.cellA tbk hs14 0 rfl rfl rfl rfl) (resV.tmp rfl) (⟨congrArg Ending.returned ?_, hs14.nil⟩)
  rw [placeR, if_neg hk, decide_eq_false hk]; rfl
 have hk : 0 ≤ placeAt t w_ h_ p := by show 0 ≤ findI _ _; omega
 have hpe : findI (fun r : RectD => decide (r.Pane = p)) (placesL t w_ h_) = placeAt t w_ h_ p := rfl
 refine WC.skip (hK12 _ _ (WC.sr (WL.r 2 hs11 [] rfl ?_)))
 refine WL.val rfl rfl rfl (Run.idxK ((placeAt t w_ h_ p).toNat) Tryz.runUnderlying158 Tryz.sizeOf71 rfl rfl rfl ?_ ?_ ?_) ?_
 · exact SlF.some_ (SlF.ofOwn ho10 (hs11.ow L1_9))
 · omega
 · omega
 refine WL.val rfl rfl rfl (Run.loadA Tryz.isAgg71 Tryz.sizeOf71 rfl rfl (SlF.whole (SlF.ofOwn ho10 (hs11.ow L1_9)) ?_)) ?_
 · omega
 refine WL.st tbk hs11 0 rfl rfl (fun _ hs15 => WL.r 1 hs15 [] rfl (WL.nil (WC.ret (retV2 rfl (resV.cellA tbk hs15 0 rfl rfl rfl rfl) (resV.tmp rfl) (⟨congrArg Ending.returned ?_, hs15.nil⟩)))))
 rw [placeR, if_pos hk, decide_eq_true hk]; rfl
theorem k67_ (A_t : Option Addr) (n_t c_t : Nat) (t : List NodeD) (w_ : Int) (h_ : Int) (p : Int) (w : World) (f_t : SlF encNode w A_t n_t t) (hn : n_t ≤ 268435456) :
    Calls Tryz.prog 51 #[.slice A_t n_t c_t, i64 w_, i64 h_, i64 p] w fun e w' => e = .returned (.tuple #[.agg (encRect.enc (placeR t w_ h_ p)).toArray, .bool (decide (0 ≤ placeAt t w_ h_ p))]) ∧ St w [] [] w' := by
 have hpl := placesL_len t w_ h_
 refine enter 34 Tryz.func51 rfl Tryz.ntmps51 rfl rfl ?_
 have hs1 := St.init w
 refine WC.sr (WL.al hs1 Tryz.zeroValue71 rfl rfl (fun b2 _ hs3 => WL.r 1 hs3 [] rfl (WL.nil (WC.sr (WL.r 3 hs3 [] rfl ?_)))))
 refine WL.cl Tryz.call111 rfl (k63_ _ _ _ _ _ _ _ (SlF.st0 f_t hs3) ?_) ?_
 · first | assumption | rfl | omega
 rintro _ whs4 ⟨A5, c6, L1_7, rfl, hs4, ho8⟩
 replace hs4 := hs3.callF hs4
 refine ⟨_, rfl, ?_⟩
 replace hs4 := St.back [_] hs4
 refine WL.r 5 hs4 [] rfl (WL.nil (WC.seq (fun K9 hK9 => WC.r1 hs4 [] rfl (WC.block ?_))))
 refine WC.lS [3, 8, 21, 22] rfl hs4 (fun k_ f w' => ∃ (i : Nat), k_ = (placesL t w_ h_).length - i ∧ (i ≤ (placesL t w_ h_).length) ∧ (∀ j, j < i → (fun r : RectD => decide (r.Pane = p)) (gat encRect (placesL t w_ h_) j) = false) ∧ Sub [(23, .int .i64 i)] f) ((fun (i : Nat) => (placesL t w_ h_).length - i) (0)) ?_ ?_
 ·refine ⟨0, rfl, ?_, ?_, ⟨rfl, trivial⟩⟩
  · exact Nat.zero_le _
  · exact fun j hj => absurd hj (by omega)
 clear hs4
 rintro _ f w ⟨i, rfl, p0, p1, hG⟩ hF hs10
 refine WC.sub _ (hG.app hF) ?_
 clear hG hF
 refine WC.r1 hs10 [] rfl (WC.seq (fun K11 hK11 => ?_))
 refine WC.cq rfl (fun h12 qh12 => ?_) (fun h12 qh12 => ?_)
 ·refine WC.skip (hK11 _ _ (WC.seq (fun K13 hK13 => WC.block (WC.sr ?_))))
  refine WL.val rfl rfl rfl (Run.idxN Tryz.runUnderlying158 Tryz.sizeOf71 rfl rfl rfl ?_ ?_ ?_) ?_
  · exact SlF.some_ (SlF.ofOwn ho8 (hs10.ow L1_7))
  · omega
  · omega
  refine WL.val rfl rfl rfl (Run.loadA Tryz.isAgg71 Tryz.sizeOf71 rfl rfl (SlF.whole (SlF.ofOwn ho8 (hs10.ow L1_7)) ?_)) ?_
  · omega
  refine WL.al hs10 Tryz.zeroValue71 rfl rfl (fun b14 _ hs15 => WL.st tbk hs15 0 rfl rfl (fun _ hs16 => WL.nil (WC.r1 hs16 [0] rfl ?_)))
  refine WC.cq rfl (fun h17 qh17 => ?_) (fun h17 qh17 => ?_)
  ·have hfi : placeAt t w_ h_ p = (i : Int) := findI_some (F := encRect) (by omega) p1 h17
   refine WC.sr (WL.r 1 hs16 [0] rfl (WL.st tbk hs16 1 rfl rfl (fun _ hs18 => WL.r 1 hs18 [] rfl (WL.nil (WC.ret (ibR (tkR (tkR (ibR (tkR ?_))))))))))
   clear hK13 hK9
   refine retV2 rfl (resV.cellA tbk hs18 1 rfl rfl rfl rfl) (resV.tmp rfl) (⟨congrArg Ending.returned ?_, hs18.nil⟩)
   rw [placeR, hfi, if_pos (by omega), decide_eq_true (by omega)]; rfl
  refine WC.skip (hK13 _ _ (WC.region (WL.r 2 hs16 [] rfl (WL.nil (tkN ?_)))))
  refine ⟨sbF rfl, (hs16.drop (by repeat (first | exact List.Sublist.refl _ | exact List.sublist_append_left _ _ | exact List.Sublist.trans (List.sublist_append_left _ _) (List.sublist_append_left _ _) | apply List.Sublist.cons | refine List.Sublist.trans ?_ (sR _)))), _, ?_, i + 1, rfl, ?_, ?_, ⟨rfl, trivial⟩⟩
  · omega
  · omega
  · intro j hj; rcases Nat.lt_or_ge j i with h_0 | h_0
    · exact p1 j h_0
    · obtain rfl : j = i := by omega
      exact h17
 have hfi : placeAt t w_ h_ p = -1 := findI_none (F := encRect) (fun j hj => p1 j (by omega))
 refine WC.exit (hK9 _ _ (WC.sr ?_))
 refine WL.val rfl rfl rfl (Run.build rfl rfl rfl rfl (built_71)) (WL.st tbk hs10 0 rfl rfl (fun _ hs19 => WL.r 1 hs19 [] rfl (WL.nil (WC.ret (retV2 rfl (resV.cellA tbk hs19 0 rfl rfl rfl rfl) (resV.tmp rfl) (⟨congrArg Ending.returned ?_, hs19.nil⟩))))))
 rw [placeR, hfi]; rfl
theorem k68_ (s : StateR) (p : Int) (w : World) (f_s : okStateR 549755813888 w s) (hT : totState s.dat ≤ 1048576) :
    Calls Tryz.prog 17 #[.agg #[i64 s.W, i64 s.H, i64 s.Limit, i64 s.Next, .slice s.Panes.A s.Panes.n s.Panes.c, .slice s.Wins.A s.Wins.n s.Wins.c, .slice s.Sess.A s.Sess.n s.Sess.c], i64 p] w fun e w' => e = .returned (.tuple #[.int .i64 (areaD s.dat p).1, .int .i64 (areaD s.dat p).2]) ∧ St w [] [] w' := by
 have nb_s_Panes := f_s.Panes_n
 have nl_s_Panes := f_s.Panes.sl.len
 have nb_s_Wins := f_s.Wins_n
 have nl_s_Wins := f_s.Wins.sl.len
 have nb_s_Sess := f_s.Sess_n
 have nl_s_Sess := f_s.Sess.sl.len
 have hsm0 : smState 1048576 s.dat := totState_sm hT
 have hWn : ∀ y, y ∈ s.Wins.xs → y.Tree.n ≤ 1048576 := fun y hy => by have h1 := (f_s.Wins.all y hy).Tree.len; have h2 : y.Tree.xs.length ≤ 1048576 := (hsm0.2.2.2.1 _ (List.mem_map_of_mem hy)).2; omega
 refine enter 47 Tryz.func17 rfl Tryz.ntmps17 rfl rfl ?_
 have hs1 := St.init w
 refine WC.sr (WL.bx hs1 rfl (fun b2 _ hs3 => WL.r 2 hs3 [] rfl (WL.nil (WC.sr (WL.r 2 hs3 [0] rfl ?_)))))
 refine WL.cl Tryz.call14 rfl (k49_ s _ _ (okStateR.st0 f_s hs3) ?_) ?_
 · first | assumption | rfl | omega
 rintro _ whs4 ⟨rfl, hs4⟩
 replace hs4 := hs3.call0 hs4
 refine ⟨_, rfl, WL.r 1 hs4 [] rfl (WL.nil (WC.seq (fun K5 hK5 => WC.r1 hs4 [] rfl ?_)))⟩
 refine WC.cq rfl (fun h6 qh6 => ?_) (fun h6 qh6 => ?_)
 ·have hfd : s.dat.Wins.find? (winHas p) = none := by rw [find_findI, if_neg (by have h9 := h6; simp at h9; omega)]
  have hAD : areaD s.dat p = (0, 0) := by unfold areaD; rw [hfd]
  refine WC.r1 hs4 [] rfl (WC.ret (tkR ?_))
  clear hK5
  refine retV2 rfl (resV.tmp rfl) (resV.tmp rfl) (⟨congrArg Ending.returned ?_, hs4.nil⟩)
  rw [hAD]
 have hk0 : 0 ≤ (findI (winHas p) s.dat.Wins) := by have h9 := h6; simp at h9; omega
 have hlt : (findI (winHas p) s.dat.Wins).toNat < s.Wins.xs.length := by have h9 := findI_lt (p := winHas p) (xs := s.dat.Wins); have h8 : s.dat.Wins.length = s.Wins.xs.length := List.length_map _; omega
 have hfd : s.dat.Wins.find? (winHas p) = some (gat encWinR s.Wins.xs (findI (winHas p) s.dat.Wins).toNat).dat := by rw [find_findI, if_pos hk0, show s.dat.Wins = s.Wins.xs.map WinR.dat from rfl, List.getElem?_map, gat_get (F := encWinR) (by exact hlt)]; rfl
 have hAD : areaD s.dat p = areaW s.dat p (gat encWinR s.Wins.xs (findI (winHas p) s.dat.Wins).toNat).dat := by unfold areaD; rw [hfd]
 have hWi := hWn (gat encWinR s.Wins.xs (findI (winHas p) s.dat.Wins).toNat) (gat_mem hlt)
 have hwl : (findI (winHas p) s.dat.Wins) < s.Wins.n := by omega
 refine WC.skip (hK5 _ _ (WC.sr (WL.r 3 hs4 [0] rfl ?_)))
 refine WL.val rfl rfl rfl (Run.idxK ((findI (winHas p) s.dat.Wins).toNat) Tryz.runUnderlying30 Tryz.sizeOf58 rfl rfl rfl ?_ ?_ ?_) ?_
 · exact SlF.some_ (SlF.st0 f_s.Wins.sl hs4)
 · omega
 · omega
 refine WL.val rfl rfl rfl (Run.loadA Tryz.isAgg58 Tryz.sizeOf58 rfl rfl (SlF.whole (SlF.st0 f_s.Wins.sl hs4) ?_)) ?_
 · omega
 refine WL.al hs4 Tryz.zeroValue58 rfl rfl (fun b7 _ hs8 => WL.st tbk hs8 0 rfl rfl (fun _ hs9 => WL.nil (WC.seq (fun K10 hK10 => WC.sr (WL.r 3 hs9 [0] rfl (WL.pA tbk 4 Acts.nil hs9 [0] rfl rfl rfl rfl (fun g_ => ⟨rfl, trivial⟩) (WL.nil ?_)))))))
 refine WC.cq rfl (fun h11 qh11 => ?_) (fun h11 qh11 => ?_)
 ·have hz : ((gat encWinR s.Wins.xs (findI (winHas p) s.dat.Wins).toNat).Zoom && decide ((gat encWinR s.Wins.xs (findI (winHas p) s.dat.Wins).toNat).Active = p)) = true := h11
  have hAW : areaW s.dat p (gat encWinR s.Wins.xs (findI (winHas p) s.dat.Wins).toNat).dat = (s.W, s.H) := if_pos hz
  refine WC.q1 hs9 [1, 1] rfl (fun _ hs12 => WC.ret (tkR ?_))
  clear hK10
  refine retV2 rfl (resV.tmp rfl) (resV.tmp rfl) (⟨congrArg Ending.returned ?_, hs12.nil⟩)
  rw [hAD, hAW]
 have hz : ¬ ((gat encWinR s.Wins.xs (findI (winHas p) s.dat.Wins).toNat).Zoom && decide ((gat encWinR s.Wins.xs (findI (winHas p) s.dat.Wins).toNat).Active = p)) = true := by have h9 := h11; rw [h9]; decide
 have hAW : areaW s.dat p (gat encWinR s.Wins.xs (findI (winHas p) s.dat.Wins).toNat).dat = ((placeR (gat encWinR s.Wins.xs (findI (winHas p) s.dat.Wins).toNat).Tree.xs s.W s.H p).W, (placeR (gat encWinR s.Wins.xs (findI (winHas p) s.dat.Wins).toNat).Tree.xs s.W s.H p).H) := if_neg hz
 refine WC.skip (hK10 _ _ (WC.sr (WL.r 7 hs9 [0, 1, 1] rfl ?_)))
 refine WL.cl Tryz.call52 rfl (k66_ _ _ _ _ _ _ _ _ (SlF.st0 (SlN.nth f_s.Wins (by omega)).Tree hs9) ?_) ?_
 · first | assumption | rfl | omega
 rintro _ whs13 ⟨rfl, hs13⟩
 replace hs13 := hs9.call0 hs13
 refine ⟨_, rfl, WL.r 3 hs13 [] rfl (WL.al hs13 Tryz.zeroValue71 rfl rfl (fun b14 _ hs15 => WL.st tbk hs15 0 rfl rfl (fun _ hs16 => WL.r 1 hs16 [] rfl (WL.nil (WC.q1 hs16 [0, 0] rfl (fun _ hs17 => WC.ret ?_))))))⟩
 refine retV2 rfl (resV.tmp rfl) (resV.tmp rfl) (⟨congrArg Ending.returned ?_, hs17.nil⟩)
 rw [hAD, hAW]
theorem k69_ (s : StateR) (p : Int) (w : World) (f_s : okStateR 549755813888 w s) (hT : totState s.dat ≤ 1048576) :
    Calls Tryz.prog 16 #[.agg #[i64 s.W, i64 s.H, i64 s.Limit, i64 s.Next, .slice s.Panes.A s.Panes.n s.Panes.c, .slice s.Wins.A s.Wins.n s.Wins.c, .slice s.Sess.A s.Sess.n s.Sess.c], i64 p] w fun e w' => e = .returned (.tuple #[.int .i64 (areaD s.dat p).1, .int .i64 (areaD s.dat p).2]) ∧ St w [] [] w' := by
 have nb_s_Panes := f_s.Panes_n
 have nl_s_Panes := f_s.Panes.sl.len
 have nb_s_Wins := f_s.Wins_n
 have nl_s_Wins := f_s.Wins.sl.len
 have nb_s_Sess := f_s.Sess_n
 have nl_s_Sess := f_s.Sess.sl.len
 have hsm0 : smState 1048576 s.dat := totState_sm hT
 have hWn : ∀ y, y ∈ s.Wins.xs → y.Tree.n ≤ 1048576 := fun y hy => by have h1 := (f_s.Wins.all y hy).Tree.len; have h2 : y.Tree.xs.length ≤ 1048576 := (hsm0.2.2.2.1 _ (List.mem_map_of_mem hy)).2; omega
 refine enter 47 Tryz.func16 rfl Tryz.ntmps16 rfl rfl ?_
 have hs1 := St.init w
 refine WC.sr (WL.bx hs1 rfl (fun b2 _ hs3 => WL.r 2 hs3 [] rfl (WL.nil (WC.sr (WL.r 2 hs3 [0] rfl ?_)))))
 refine WL.cl Tryz.call12 rfl (k50_ s _ _ (okStateR.st0 f_s hs3) ?_) ?_
 · first | assumption | rfl | omega
 rintro _ whs4 ⟨rfl, hs4⟩
 replace hs4 := hs3.call0 hs4
 refine ⟨_, rfl, WL.r 1 hs4 [] rfl (WL.nil (WC.seq (fun K5 hK5 => WC.r1 hs4 [] rfl ?_)))⟩
 refine WC.cq rfl (fun h6 qh6 => ?_) (fun h6 qh6 => ?_)
 ·have hfd : s.dat.Wins.find? (winHas p) = none := by rw [find_findI, if_neg (by have h9 := h6; simp at h9; omega)]
  have hAD : areaD s.dat p = (0, 0) := by unfold areaD; rw [hfd]
  refine WC.r1 hs4 [] rfl (WC.ret (tkR ?_))
  clear hK5
  refine retV2 rfl (resV.tmp rfl) (resV.tmp rfl) (⟨congrArg Ending.returned ?_, hs4.nil⟩)
  rw [hAD]
 have hk0 : 0 ≤ (findI (winHas p) s.dat.Wins) := by have h9 := h6; simp at h9; omega
 have hlt : (findI (winHas p) s.dat.Wins).toNat < s.Wins.xs.length := by have h9 := findI_lt (p := winHas p) (xs := s.dat.Wins); have h8 : s.dat.Wins.length = s.Wins.xs.length := List.length_map _; omega
 have hfd : s.dat.Wins.find? (winHas p) = some (gat encWinR s.Wins.xs (findI (winHas p) s.dat.Wins).toNat).dat := by rw [find_findI, if_pos hk0, show s.dat.Wins = s.Wins.xs.map WinR.dat from rfl, List.getElem?_map, gat_get (F := encWinR) (by exact hlt)]; rfl
 have hAD : areaD s.dat p = areaW s.dat p (gat encWinR s.Wins.xs (findI (winHas p) s.dat.Wins).toNat).dat := by unfold areaD; rw [hfd]
 have hWi := hWn (gat encWinR s.Wins.xs (findI (winHas p) s.dat.Wins).toNat) (gat_mem hlt)
 have hwl : (findI (winHas p) s.dat.Wins) < s.Wins.n := by omega
 refine WC.skip (hK5 _ _ (WC.sr (WL.r 3 hs4 [0] rfl ?_)))
 refine WL.val rfl rfl rfl (Run.idxK ((findI (winHas p) s.dat.Wins).toNat) Tryz.runUnderlying30 Tryz.sizeOf58 rfl rfl rfl ?_ ?_ ?_) ?_
 · exact SlF.some_ (SlF.st0 f_s.Wins.sl hs4)
 · omega
 · omega
 refine WL.val rfl rfl rfl (Run.loadA Tryz.isAgg58 Tryz.sizeOf58 rfl rfl (SlF.whole (SlF.st0 f_s.Wins.sl hs4) ?_)) ?_
 · omega
 refine WL.al hs4 Tryz.zeroValue58 rfl rfl (fun b7 _ hs8 => WL.st tbk hs8 0 rfl rfl (fun _ hs9 => WL.nil (WC.seq (fun K10 hK10 => WC.sr (WL.r 3 hs9 [0] rfl (WL.pA tbk 4 Acts.nil hs9 [0] rfl rfl rfl rfl (fun g_ => ⟨rfl, trivial⟩) (WL.nil ?_)))))))
 refine WC.cq rfl (fun h11 qh11 => ?_) (fun h11 qh11 => ?_)
 ·have hz : ((gat encWinR s.Wins.xs (findI (winHas p) s.dat.Wins).toNat).Zoom && decide ((gat encWinR s.Wins.xs (findI (winHas p) s.dat.Wins).toNat).Active = p)) = true := h11
  have hAW : areaW s.dat p (gat encWinR s.Wins.xs (findI (winHas p) s.dat.Wins).toNat).dat = (s.W, s.H) := if_pos hz
  refine WC.q1 hs9 [1, 1] rfl (fun _ hs12 => WC.ret (tkR ?_))
  clear hK10
  refine retV2 rfl (resV.tmp rfl) (resV.tmp rfl) (⟨congrArg Ending.returned ?_, hs12.nil⟩)
  rw [hAD, hAW]
 have hz : ¬ ((gat encWinR s.Wins.xs (findI (winHas p) s.dat.Wins).toNat).Zoom && decide ((gat encWinR s.Wins.xs (findI (winHas p) s.dat.Wins).toNat).Active = p)) = true := by have h9 := h11; rw [h9]; decide
 have hAW : areaW s.dat p (gat encWinR s.Wins.xs (findI (winHas p) s.dat.Wins).toNat).dat = ((placeR (gat encWinR s.Wins.xs (findI (winHas p) s.dat.Wins).toNat).Tree.xs s.W s.H p).W, (placeR (gat encWinR s.Wins.xs (findI (winHas p) s.dat.Wins).toNat).Tree.xs s.W s.H p).H) := if_neg hz
 refine WC.skip (hK10 _ _ (WC.sr (WL.r 7 hs9 [0, 1, 1] rfl ?_)))
 refine WL.cl Tryz.call51 rfl (k67_ _ _ _ _ _ _ _ _ (SlF.st0 (SlN.nth f_s.Wins (by omega)).Tree hs9) ?_) ?_
 · first | assumption | rfl | omega
 rintro _ whs13 ⟨rfl, hs13⟩
 replace hs13 := hs9.call0 hs13
 refine ⟨_, rfl, WL.r 3 hs13 [] rfl (WL.al hs13 Tryz.zeroValue71 rfl rfl (fun b14 _ hs15 => WL.st tbk hs15 0 rfl rfl (fun _ hs16 => WL.r 1 hs16 [] rfl (WL.nil (WC.q1 hs16 [0, 0] rfl (fun _ hs17 => WC.ret ?_))))))⟩
 refine retV2 rfl (resV.tmp rfl) (resV.tmp rfl) (⟨congrArg Ending.returned ?_, hs17.nil⟩)
 rw [hAD, hAW]
set_option maxHeartbeats 4000000 in
theorem k70_ (a : PaneR) (left : Int) (w : World) (f_a : okPaneR 9223372036854775807 w a) (h1 : 0 ≤ left) (h2 : left ≤ 1048576) :
    Calls Tryz.prog 98 #[.agg #[i64 a.Id, .string a.Cmd, .string a.Dir, i64 a.Life, i64 a.Code, i64 a.Pid, i64 a.Term.P.State, .bool a.Term.P.Mark, .slice a.Term.P.Args.A a.Term.P.Args.n a.Term.P.Args.c, .slice a.Term.P.Part.A a.Term.P.Part.n a.Term.P.Part.c, i64 a.Term.S.W, i64 a.Term.S.H, i64 a.Term.S.Main.W, i64 a.Term.S.Main.H, .slice a.Term.S.Main.Cells.A a.Term.S.Main.Cells.n a.Term.S.Main.Cells.c, i64 a.Term.S.Alt.W, i64 a.Term.S.Alt.H, .slice a.Term.S.Alt.Cells.A a.Term.S.Alt.Cells.n a.Term.S.Alt.Cells.c, .bool a.Term.S.OnAlt, i64 a.Term.S.X, i64 a.Term.S.Y, .bool a.Term.S.Wrap, i64 a.Term.S.A.Fg, i64 a.Term.S.A.Bg, .bool a.Term.S.A.Bold, .bool a.Term.S.A.Under, .bool a.Term.S.A.Turn, i64 a.Term.S.Top, i64 a.Term.S.Bot, .bool a.Term.S.NoWrap, .bool a.Term.S.Hide, i64 a.Term.S.SaveX, i64 a.Term.S.SaveY, i64 a.Term.S.SaveA.Fg, i64 a.Term.S.SaveA.Bg, .bool a.Term.S.SaveA.Bold, .bool a.Term.S.SaveA.Under, .bool a.Term.S.SaveA.Turn, .slice a.Term.S.Tabs.A a.Term.S.Tabs.n a.Term.S.Tabs.c, i64 a.Term.S.Limit, .slice a.Term.S.Back.A a.Term.S.Back.n a.Term.S.Back.c], i64 left] w fun e w' => e = .returned (.int .i64 (szR left (totPane a.dat))) ∧ St w [] [] w' := by
 have nz_a_Cmd := f_a.Cmd_z
 have nz_a_Dir := f_a.Dir_z
 have nb_a_Term_P_Args := f_a.Term.P.Args_n
 have nl_a_Term_P_Args := f_a.Term.P.Args.len
 have nb_a_Term_P_Part := f_a.Term.P.Part_n
 have nl_a_Term_P_Part := f_a.Term.P.Part.len
 have nb_a_Term_S_Main_Cells := f_a.Term.S.Main.Cells_n
 have nl_a_Term_S_Main_Cells := f_a.Term.S.Main.Cells.len
 have nb_a_Term_S_Alt_Cells := f_a.Term.S.Alt.Cells_n
 have nl_a_Term_S_Alt_Cells := f_a.Term.S.Alt.Cells.len
 have nb_a_Term_S_Tabs := f_a.Term.S.Tabs_n
 have nl_a_Term_S_Tabs := f_a.Term.S.Tabs.len
 have nb_a_Term_S_Back := f_a.Term.S.Back_n
 have nl_a_Term_S_Back := f_a.Term.S.Back.sl.len
 refine enter 26 Tryz.func98 rfl Tryz.ntmps98 rfl rfl ?_
 have hs1 := St.init w
 refine WC.sr (WL.bx hs1 rfl (fun b2 _ hs3 => WL.r 1 hs3 [] rfl (WL.nil (WC.r1 hs3 [0] rfl (WC.seq (fun K4 hK4 => WC.r1 hs3 [] rfl ?_))))))
 refine WC.cD rfl (fun qh5 => ?_) (fun qh5 => ?_)
 ·try have soh5 := szR_ok qh5 (by omega)
  try have sbh5 := szR_b qh5 (by omega) (by first | assumption | omega)
  try have snh5 := szR_no qh5
  refine WC.r1 hs3 [] rfl (WC.ret (tkR ?_))
  clear hK4
  refine rtv rfl rfl hs3 ?_
  simp only [totGrid, totPane, totScr, totTerm, totVp, GridR.dat, PaneR.dat, ScrR.dat, TermR.dat, VpR.dat] at *; first | (rw [szR_lt (by omega)]; done) | (refine congrArg (Value.int _) ?_; symm; refine (szR_le ?_).trans ?_ <;> omega) | rfl
 try have soh5 := szR_ok qh5 (by omega)
 try have sbh5 := szR_b qh5 (by omega) (by first | assumption | omega)
 try have snh5 := szR_no qh5
 refine WC.skip (hK4 _ _ (WC.r1 hs3 [0] rfl (WC.seq (fun K6 hK6 => WC.r1 hs3 [] rfl ?_))))
 refine WC.cD rfl (fun qh7 => ?_) (fun qh7 => ?_)
 ·try have soh7 := szR_ok qh7 (by omega)
  try have sbh7 := szR_b qh7 (by omega) (by first | assumption | omega)
  try have snh7 := szR_no qh7
  refine WC.r1 hs3 [] rfl (WC.ret (tkR ?_))
  clear hK6
  refine rtv rfl rfl hs3 ?_
  simp only [totGrid, totPane, totScr, totTerm, totVp, GridR.dat, PaneR.dat, ScrR.dat, TermR.dat, VpR.dat] at *; first | (rw [szR_lt (by omega)]; done) | (refine congrArg (Value.int _) ?_; symm; refine (szR_le ?_).trans ?_ <;> omega) | rfl
 try have soh7 := szR_ok qh7 (by omega)
 try have sbh7 := szR_b qh7 (by omega) (by first | assumption | omega)
 try have snh7 := szR_no qh7
 refine WC.skip (hK6 _ _ (WC.sr (WL.r 3 hs3 [0] rfl ?_)))
 refine WL.cl Tryz.call158 rfl (k46_ a.Term _ _ (okTermR.st0 f_a.Term hs3) ?_ ?_) ?_
 · first | assumption | omega
 · first | assumption | omega | exact szR_b (by assumption) (by omega) (by first | assumption | omega)
 rintro _ whs8 ⟨rfl, hs8⟩
 replace hs8 := hs3.call0 hs8
 refine ⟨_, rfl, WL.r 1 hs8 [] rfl (WL.nil (WC.seq (fun K9 hK9 => WC.r1 hs8 [] rfl ?_)))⟩
 refine WC.cD rfl (fun qh10 => ?_) (fun qh10 => ?_)
 ·try have soh10 := szR_ok qh10 (by omega)
  try have sbh10 := szR_b qh10 (by omega) (by first | assumption | omega)
  try have snh10 := szR_no qh10
  refine WC.r1 hs8 [] rfl (WC.ret (tkR ?_))
  clear hK9
  refine rtv rfl rfl hs8 ?_
  simp only [totGrid, totPane, totScr, totTerm, totVp, GridR.dat, PaneR.dat, ScrR.dat, TermR.dat, VpR.dat] at *; first | (rw [szR_lt (by omega)]; done) | (refine congrArg (Value.int _) ?_; symm; refine (szR_le ?_).trans ?_ <;> omega) | rfl
 try have soh10 := szR_ok qh10 (by omega)
 try have sbh10 := szR_b qh10 (by omega) (by first | assumption | omega)
 try have snh10 := szR_no qh10
 refine WC.skip (hK9 _ _ (WC.r1 hs8 [] rfl (WC.ret (rtv rfl rfl hs8 ?_))))
 simp only [totGrid, totPane, totScr, totTerm, totVp, GridR.dat, PaneR.dat, ScrR.dat, TermR.dat, VpR.dat] at *; first | (rw [szR_lt (by omega)]; done) | (refine congrArg (Value.int _) ?_; symm; refine (szR_le ?_).trans ?_ <;> omega) | rfl
set_option maxHeartbeats 4000000 in
theorem k71_ (a : PaneR) (w : World) (f_a : okPaneR 549755813888 w a) :
    Calls Tryz.prog 102 #[.agg #[i64 a.Id, .string a.Cmd, .string a.Dir, i64 a.Life, i64 a.Code, i64 a.Pid, i64 a.Term.P.State, .bool a.Term.P.Mark, .slice a.Term.P.Args.A a.Term.P.Args.n a.Term.P.Args.c, .slice a.Term.P.Part.A a.Term.P.Part.n a.Term.P.Part.c, i64 a.Term.S.W, i64 a.Term.S.H, i64 a.Term.S.Main.W, i64 a.Term.S.Main.H, .slice a.Term.S.Main.Cells.A a.Term.S.Main.Cells.n a.Term.S.Main.Cells.c, i64 a.Term.S.Alt.W, i64 a.Term.S.Alt.H, .slice a.Term.S.Alt.Cells.A a.Term.S.Alt.Cells.n a.Term.S.Alt.Cells.c, .bool a.Term.S.OnAlt, i64 a.Term.S.X, i64 a.Term.S.Y, .bool a.Term.S.Wrap, i64 a.Term.S.A.Fg, i64 a.Term.S.A.Bg, .bool a.Term.S.A.Bold, .bool a.Term.S.A.Under, .bool a.Term.S.A.Turn, i64 a.Term.S.Top, i64 a.Term.S.Bot, .bool a.Term.S.NoWrap, .bool a.Term.S.Hide, i64 a.Term.S.SaveX, i64 a.Term.S.SaveY, i64 a.Term.S.SaveA.Fg, i64 a.Term.S.SaveA.Bg, .bool a.Term.S.SaveA.Bold, .bool a.Term.S.SaveA.Under, .bool a.Term.S.SaveA.Turn, .slice a.Term.S.Tabs.A a.Term.S.Tabs.n a.Term.S.Tabs.c, i64 a.Term.S.Limit, .slice a.Term.S.Back.A a.Term.S.Back.n a.Term.S.Back.c]] w fun e w' => ∃ r L1, e = .returned (.agg #[i64 r.Id, .string r.Cmd, .string r.Dir, i64 r.Life, i64 r.Code, i64 r.Pid, i64 r.Term.P.State, .bool r.Term.P.Mark, .slice r.Term.P.Args.A r.Term.P.Args.n r.Term.P.Args.c, .slice r.Term.P.Part.A r.Term.P.Part.n r.Term.P.Part.c, i64 r.Term.S.W, i64 r.Term.S.H, i64 r.Term.S.Main.W, i64 r.Term.S.Main.H, .slice r.Term.S.Main.Cells.A r.Term.S.Main.Cells.n r.Term.S.Main.Cells.c, i64 r.Term.S.Alt.W, i64 r.Term.S.Alt.H, .slice r.Term.S.Alt.Cells.A r.Term.S.Alt.Cells.n r.Term.S.Alt.Cells.c, .bool r.Term.S.OnAlt, i64 r.Term.S.X, i64 r.Term.S.Y, .bool r.Term.S.Wrap, i64 r.Term.S.A.Fg, i64 r.Term.S.A.Bg, .bool r.Term.S.A.Bold, .bool r.Term.S.A.Under, .bool r.Term.S.A.Turn, i64 r.Term.S.Top, i64 r.Term.S.Bot, .bool r.Term.S.NoWrap, .bool r.Term.S.Hide, i64 r.Term.S.SaveX, i64 r.Term.S.SaveY, i64 r.Term.S.SaveA.Fg, i64 r.Term.S.SaveA.Bg, .bool r.Term.S.SaveA.Bold, .bool r.Term.S.SaveA.Under, .bool r.Term.S.SaveA.Turn, .slice r.Term.S.Tabs.A r.Term.S.Tabs.n r.Term.S.Tabs.c, i64 r.Term.S.Limit, .slice r.Term.S.Back.A r.Term.S.Back.n r.Term.S.Back.c]) ∧ St w [] L1 w' ∧ ownPaneR r L1 ∧ r.dat = a.dat := by
 have nz_a_Cmd := f_a.Cmd_z
 have nz_a_Dir := f_a.Dir_z
 have nb_a_Term_P_Args := f_a.Term.P.Args_n
 have nl_a_Term_P_Args := f_a.Term.P.Args.len
 have nb_a_Term_P_Part := f_a.Term.P.Part_n
 have nl_a_Term_P_Part := f_a.Term.P.Part.len
 have nb_a_Term_S_Main_Cells := f_a.Term.S.Main.Cells_n
 have nl_a_Term_S_Main_Cells := f_a.Term.S.Main.Cells.len
 have nb_a_Term_S_Alt_Cells := f_a.Term.S.Alt.Cells_n
 have nl_a_Term_S_Alt_Cells := f_a.Term.S.Alt.Cells.len
 have nb_a_Term_S_Tabs := f_a.Term.S.Tabs_n
 have nl_a_Term_S_Tabs := f_a.Term.S.Tabs.len
 have nb_a_Term_S_Back := f_a.Term.S.Back_n
 have nl_a_Term_S_Back := f_a.Term.S.Back.sl.len
 refine enter 27 Tryz.func102 rfl Tryz.ntmps102 rfl rfl ?_
 have hs1 := St.init w
 refine WC.sr (WL.bx hs1 rfl (fun b2 _ hs3 => WL.al hs3 Tryz.zeroValue93 rfl rfl (fun b4 _ hs5 => WL.nil (WC.sr (WL.al hs5 Tryz.zeroValue93 rfl rfl (fun b6 _ hs7 => WL.nil (WC.sr ?_)))))))
 refine WL.r 3 hs7 [2] rfl (WL.st tbk hs7 0 rfl rfl (fun _ hs8 => WL.nil (WC.sr (WL.r 3 hs8 [2] rfl (WL.st tbk hs8 0 rfl rfl (fun _ hs9 => WL.nil (WC.sr ?_)))))))
 refine WL.r 3 hs9 [2] rfl (WL.st tbk hs9 0 rfl rfl (fun _ hs10 => WL.nil (WC.sr (WL.r 3 hs10 [2] rfl (WL.st tbk hs10 0 rfl rfl (fun _ hs11 => WL.nil (WC.sr ?_)))))))
 refine WL.r 3 hs11 [2] rfl (WL.st tbk hs11 0 rfl rfl (fun _ hs12 => WL.nil (WC.sr (WL.r 3 hs12 [2] rfl (WL.st tbk hs12 0 rfl rfl (fun _ hs13 => WL.nil (WC.sr ?_)))))))
 refine WL.r 2 hs13 [2] rfl (WL.cl Tryz.call162 rfl (k45_ a.Term _ (okTermR.st0 f_a.Term hs13)) ?_)
 rintro _ whs14 ⟨r15, L1_16, rfl, hs14, ho17, hd18⟩
 replace hs14 := hs13.callF hs14
 refine ⟨_, rfl, ?_⟩
 replace hs14 := St.back [_, _, _] hs14
 refine WL.r 1 hs14 [] rfl (WL.st tbk hs14 0 rfl rfl (fun _ hs19 => WL.nil (WC.sr (WL.r 1 hs19 [0] rfl (WL.st tbk hs19 1 rfl rfl (fun _ hs20 => WL.nil (WC.ret ?_)))))))
 refine retV1 rfl (resV.cellA tbk hs20 1 rfl rfl rfl rfl) ?_
 obtain ⟨L21, L22, L23, L24, L25, L26, hs33, ho27, ho28, ho29, ho30, ho31, ho32⟩ := ownTermR.op hs20 ho17
 have hs34 := (((hs33.fb b2).fb b4).fb b6)
 obtain ⟨L36, hs35, ho37⟩ := ownPaneR.fl hs34 ho27 ho28 ho29 ho30 ho31 ho32
 have hs38 := (((hs35.fb b2).fb b4).fb b6)
 refine ⟨⟨a.Id, a.Cmd, a.Dir, a.Life, a.Code, a.Pid, ⟨⟨r15.P.State, r15.P.Mark, SlD.of ho27, SlD.of ho28⟩, ⟨r15.S.W, r15.S.H, ⟨r15.S.Main.W, r15.S.Main.H, SlD.of ho29⟩, ⟨r15.S.Alt.W, r15.S.Alt.H, SlD.of ho30⟩, r15.S.OnAlt, r15.S.X, r15.S.Y, r15.S.Wrap, ⟨r15.S.A.Fg, r15.S.A.Bg, r15.S.A.Bold, r15.S.A.Under, r15.S.A.Turn⟩, r15.S.Top, r15.S.Bot, r15.S.NoWrap, r15.S.Hide, r15.S.SaveX, r15.S.SaveY, ⟨r15.S.SaveA.Fg, r15.S.SaveA.Bg, r15.S.SaveA.Bold, r15.S.SaveA.Under, r15.S.SaveA.Turn⟩, SlD.of ho31, r15.S.Limit, SlD.ofN ho32⟩⟩⟩, _, rfl, (St.keep1 (hs38.fr L36)), ?_, ?_⟩
 · exact (by exact ho37)
 · exact PaneD.ext' rfl rfl rfl rfl rfl rfl hd18
set_option maxHeartbeats 4000000 in
theorem k72_ (a : WinR) (left : Int) (w : World) (f_a : okWinR 9223372036854775807 w a) (h1 : 0 ≤ left) (h2 : left ≤ 1048576) :
    Calls Tryz.prog 99 #[.agg #[i64 a.Id, .string a.Name, .slice a.Tree.A a.Tree.n a.Tree.c, i64 a.Active, .bool a.Zoom], i64 left] w fun e w' => e = .returned (.int .i64 (szR left (totWin a.dat))) ∧ St w [] [] w' := by
 have nz_a_Name := f_a.Name_z
 have nb_a_Tree := f_a.Tree_n
 have nl_a_Tree := f_a.Tree.len
 refine enter 19 Tryz.func99 rfl Tryz.ntmps99 rfl rfl ?_
 have hs1 := St.init w
 refine WC.sr (WL.bx hs1 rfl (fun b2 _ hs3 => WL.r 1 hs3 [] rfl (WL.nil (WC.r1 hs3 [0] rfl (WC.seq (fun K4 hK4 => WC.r1 hs3 [] rfl ?_))))))
 refine WC.cD rfl (fun qh5 => ?_) (fun qh5 => ?_)
 ·try have soh5 := szR_ok qh5 (by omega)
  try have sbh5 := szR_b qh5 (by omega) (by first | assumption | omega)
  try have snh5 := szR_no qh5
  refine WC.r1 hs3 [] rfl (WC.ret (tkR ?_))
  clear hK4
  refine rtv rfl rfl hs3 ?_
  simp only [totWin, WinR.dat] at *; first | (rw [szR_lt (by omega)]; done) | (refine congrArg (Value.int _) ?_; symm; refine (szR_le ?_).trans ?_ <;> omega) | rfl
 try have soh5 := szR_ok qh5 (by omega)
 try have sbh5 := szR_b qh5 (by omega) (by first | assumption | omega)
 try have snh5 := szR_no qh5
 refine WC.skip (hK4 _ _ (WC.sr (WL.r 3 hs3 [0] rfl ?_)))
 refine WL.cl Tryz.call159 rfl (k15_ _ _ _ _ _ _ (SlF.st0 f_a.Tree hs3) ?_ ?_ ?_) ?_
 · first | assumption | omega
 · first | assumption | omega | exact szR_b (by assumption) (by omega) (by first | assumption | omega)
 · first | assumption | omega
 rintro _ whs6 ⟨rfl, hs6⟩
 replace hs6 := hs3.call0 hs6
 refine ⟨_, rfl, WL.r 1 hs6 [] rfl (WL.nil (WC.seq (fun K7 hK7 => WC.r1 hs6 [] rfl ?_)))⟩
 refine WC.cD rfl (fun qh8 => ?_) (fun qh8 => ?_)
 ·try have soh8 := szR_ok qh8 (by omega)
  try have sbh8 := szR_b qh8 (by omega) (by first | assumption | omega)
  try have snh8 := szR_no qh8
  refine WC.r1 hs6 [] rfl (WC.ret (tkR ?_))
  clear hK7
  refine rtv rfl rfl hs6 ?_
  simp only [totWin, WinR.dat] at *; first | (rw [szR_lt (by omega)]; done) | (refine congrArg (Value.int _) ?_; symm; refine (szR_le ?_).trans ?_ <;> omega) | rfl
 try have soh8 := szR_ok qh8 (by omega)
 try have sbh8 := szR_b qh8 (by omega) (by first | assumption | omega)
 try have snh8 := szR_no qh8
 refine WC.skip (hK7 _ _ (WC.r1 hs6 [] rfl (WC.ret (rtv rfl rfl hs6 ?_))))
 simp only [totWin, WinR.dat] at *; first | (rw [szR_lt (by omega)]; done) | (refine congrArg (Value.int _) ?_; symm; refine (szR_le ?_).trans ?_ <;> omega) | rfl
set_option maxHeartbeats 4000000 in
theorem k73_ (a : WinR) (w : World) (f_a : okWinR 549755813888 w a) :
    Calls Tryz.prog 103 #[.agg #[i64 a.Id, .string a.Name, .slice a.Tree.A a.Tree.n a.Tree.c, i64 a.Active, .bool a.Zoom]] w fun e w' => ∃ r L1, e = .returned (.agg #[i64 r.Id, .string r.Name, .slice r.Tree.A r.Tree.n r.Tree.c, i64 r.Active, .bool r.Zoom]) ∧ St w [] L1 w' ∧ ownWinR r L1 ∧ r.dat = a.dat := by
 have nz_a_Name := f_a.Name_z
 have nb_a_Tree := f_a.Tree_n
 have nl_a_Tree := f_a.Tree.len
 refine enter 21 Tryz.func103 rfl Tryz.ntmps103 rfl rfl ?_
 have hs1 := St.init w
 refine WC.sr (WL.bx hs1 rfl (fun b2 _ hs3 => WL.al hs3 Tryz.zeroValue58 rfl rfl (fun b4 _ hs5 => WL.nil (WC.sr (WL.al hs5 Tryz.zeroValue58 rfl rfl (fun b6 _ hs7 => WL.nil (WC.sr ?_)))))))
 refine WL.r 3 hs7 [2] rfl (WL.st tbk hs7 0 rfl rfl (fun _ hs8 => WL.nil (WC.sr (WL.r 3 hs8 [2] rfl (WL.st tbk hs8 0 rfl rfl (fun _ hs9 => WL.nil (WC.sr ?_)))))))
 refine WL.r 2 hs9 [2] rfl (WL.cl Tryz.call163 rfl (k18_ _ _ _ _ _ (SlF.st0 f_a.Tree hs9) ?_) ?_)
 · first | assumption | rfl | omega
 rintro _ whs10 ⟨A11, c12, L1_13, rfl, hs10, ho14⟩
 replace hs10 := hs9.callF hs10
 refine ⟨_, rfl, ?_⟩
 replace hs10 := St.back [_, _, _] hs10
 refine WL.r 1 hs10 [] rfl (WL.st tbk hs10 0 rfl rfl (fun _ hs15 => WL.nil (WC.sr (WL.r 3 hs15 [2] rfl (WL.st tbk hs15 0 rfl rfl (fun _ hs16 => WL.nil (WC.sr ?_)))))))
 refine WL.r 3 hs16 [2] rfl (WL.st tbk hs16 0 rfl rfl (fun _ hs17 => WL.nil (WC.sr (WL.r 1 hs17 [0] rfl (WL.st tbk hs17 1 rfl rfl (fun _ hs18 => WL.nil (WC.ret ?_)))))))
 refine retV1 rfl (resV.cellA tbk hs18 1 rfl rfl rfl rfl) (⟨⟨a.Id, a.Name, SlD.of ho14, a.Active, a.Zoom⟩, _, rfl, (St.keep1 (hs18.fr L1_13)), ?_, ?_⟩)
 · exact ho14
 · exact WinD.ext' rfl rfl rfl rfl rfl
set_option maxHeartbeats 4000000 in
theorem k74_ (a : SessR) (left : Int) (w : World) (f_a : okSessR 9223372036854775807 w a) (h1 : 0 ≤ left) (h2 : left ≤ 1048576) :
    Calls Tryz.prog 100 #[.agg #[.string a.Name, .slice a.Wins.A a.Wins.n a.Wins.c, i64 a.Active], i64 left] w fun e w' => e = .returned (.int .i64 (szR left (totSess a.dat))) ∧ St w [] [] w' := by
 have nz_a_Name := f_a.Name_z
 have nb_a_Wins := f_a.Wins_n
 have nl_a_Wins := f_a.Wins.len
 refine enter 19 Tryz.func100 rfl Tryz.ntmps100 rfl rfl ?_
 have hs1 := St.init w
 refine WC.sr (WL.bx hs1 rfl (fun b2 _ hs3 => WL.r 1 hs3 [] rfl (WL.nil (WC.r1 hs3 [0] rfl (WC.seq (fun K4 hK4 => WC.r1 hs3 [] rfl ?_))))))
 refine WC.cD rfl (fun qh5 => ?_) (fun qh5 => ?_)
 ·try have soh5 := szR_ok qh5 (by omega)
  try have sbh5 := szR_b qh5 (by omega) (by first | assumption | omega)
  try have snh5 := szR_no qh5
  refine WC.r1 hs3 [] rfl (WC.ret (tkR ?_))
  clear hK4
  refine rtv rfl rfl hs3 ?_
  simp only [totSess, SessR.dat] at *; first | (rw [szR_lt (by omega)]; done) | (refine congrArg (Value.int _) ?_; symm; refine (szR_le ?_).trans ?_ <;> omega) | rfl
 try have soh5 := szR_ok qh5 (by omega)
 try have sbh5 := szR_b qh5 (by omega) (by first | assumption | omega)
 try have snh5 := szR_no qh5
 refine WC.skip (hK4 _ _ (WC.sr (WL.r 3 hs3 [0] rfl ?_)))
 refine WL.cl Tryz.call160 rfl (k13_ _ _ _ _ _ _ (SlF.st0 f_a.Wins hs3) ?_ ?_ ?_) ?_
 · first | assumption | omega
 · first | assumption | omega | exact szR_b (by assumption) (by omega) (by first | assumption | omega)
 · first | assumption | omega
 rintro _ whs6 ⟨rfl, hs6⟩
 replace hs6 := hs3.call0 hs6
 refine ⟨_, rfl, WL.r 1 hs6 [] rfl (WL.nil (WC.seq (fun K7 hK7 => WC.r1 hs6 [] rfl ?_)))⟩
 refine WC.cD rfl (fun qh8 => ?_) (fun qh8 => ?_)
 ·try have soh8 := szR_ok qh8 (by omega)
  try have sbh8 := szR_b qh8 (by omega) (by first | assumption | omega)
  try have snh8 := szR_no qh8
  refine WC.r1 hs6 [] rfl (WC.ret (tkR ?_))
  clear hK7
  refine rtv rfl rfl hs6 ?_
  simp only [totSess, SessR.dat] at *; first | (rw [szR_lt (by omega)]; done) | (refine congrArg (Value.int _) ?_; symm; refine (szR_le ?_).trans ?_ <;> omega) | rfl
 try have soh8 := szR_ok qh8 (by omega)
 try have sbh8 := szR_b qh8 (by omega) (by first | assumption | omega)
 try have snh8 := szR_no qh8
 refine WC.skip (hK7 _ _ (WC.r1 hs6 [] rfl (WC.ret (rtv rfl rfl hs6 ?_))))
 simp only [totSess, SessR.dat] at *; first | (rw [szR_lt (by omega)]; done) | (refine congrArg (Value.int _) ?_; symm; refine (szR_le ?_).trans ?_ <;> omega) | rfl
set_option maxHeartbeats 4000000 in
theorem k75_ (a : SessR) (w : World) (f_a : okSessR 549755813888 w a) :
    Calls Tryz.prog 104 #[.agg #[.string a.Name, .slice a.Wins.A a.Wins.n a.Wins.c, i64 a.Active]] w fun e w' => ∃ r L1, e = .returned (.agg #[.string r.Name, .slice r.Wins.A r.Wins.n r.Wins.c, i64 r.Active]) ∧ St w [] L1 w' ∧ ownSessR r L1 ∧ r.dat = a.dat := by
 have nz_a_Name := f_a.Name_z
 have nb_a_Wins := f_a.Wins_n
 have nl_a_Wins := f_a.Wins.len
 refine enter 15 Tryz.func104 rfl Tryz.ntmps104 rfl rfl ?_
 have hs1 := St.init w
 refine WC.sr (WL.bx hs1 rfl (fun b2 _ hs3 => WL.al hs3 Tryz.zeroValue106 rfl rfl (fun b4 _ hs5 => WL.nil (WC.sr (WL.al hs5 Tryz.zeroValue106 rfl rfl (fun b6 _ hs7 => WL.nil (WC.sr ?_)))))))
 refine WL.r 3 hs7 [2] rfl (WL.st tbk hs7 0 rfl rfl (fun _ hs8 => WL.nil (WC.sr (WL.r 2 hs8 [2] rfl ?_))))
 refine WL.cl Tryz.call164 rfl (k14_ _ _ _ _ _ (SlF.st0 f_a.Wins hs8) ?_) ?_
 · first | assumption | rfl | omega
 rintro _ whs9 ⟨A10, c11, L1_12, rfl, hs9, ho13⟩
 replace hs9 := hs8.callF hs9
 refine ⟨_, rfl, ?_⟩
 replace hs9 := St.back [_, _, _] hs9
 refine WL.r 1 hs9 [] rfl (WL.st tbk hs9 0 rfl rfl (fun _ hs14 => WL.nil (WC.sr (WL.r 3 hs14 [2] rfl (WL.st tbk hs14 0 rfl rfl (fun _ hs15 => WL.nil (WC.sr ?_)))))))
 refine WL.r 1 hs15 [0] rfl (WL.st tbk hs15 1 rfl rfl (fun _ hs16 => WL.nil (WC.ret (retV1 rfl (resV.cellA tbk hs16 1 rfl rfl rfl rfl) ?_))))
 refine ⟨⟨a.Name, SlD.of ho13, a.Active⟩, _, rfl, (St.keep1 (hs16.fr L1_12)), ?_, ?_⟩
 · exact ho13
 · exact SessD.ext' rfl rfl rfl
theorem inf58 : Tryz.prog.info? 58 = some Tryz.t58 := by kernel_rfl
theorem inf93 : Tryz.prog.info? 93 = some Tryz.t93 := by kernel_rfl
theorem inf106 : Tryz.prog.info? 106 = some Tryz.t106 := by kernel_rfl
theorem k76_ (A_a : Option Addr) (n_a c_a : Nat) (a : List PaneR) (left : Int) (w : World) (f_a : SlN encPaneR (okPaneR 9223372036854775807) w A_a n_a a) (h1 : 0 ≤ left) (h2 : left ≤ 1048576) (h3 : n_a ≤ 9223372036854775807) :
    Calls Tryz.prog 36 #[.slice A_a n_a c_a, i64 left] w fun e w' => e = .returned (.int .i64 (szR left (tots totPane (a.map PaneR.dat)))) ∧ St w [] [] w' := by
 have hl := f_a.sl.len
 have hT : (tots totPane (a.map PaneR.dat) : Int) = n_a + (a.map (fun x => totPane (PaneR.dat x))).sum := by rw [tots_map, hl]; omega
 refine enter 27 Tryz.func36 rfl Tryz.ntmps36 rfl rfl ?_
 have hs1 := St.init w
 refine WC.r1 hs1 [] rfl (WC.r1 hs1 [] rfl (WC.seq (fun K2 hK2 => WC.r1 hs1 [] rfl ?_)))
 refine WC.cD rfl (fun qh3 => ?_) (fun qh3 => ?_)
 ·refine WC.r1 hs1 [] rfl (WC.ret (tkR ?_))
  clear hK2
  refine rtv rfl rfl hs1 ?_
  rw [szR_lt (by omega)]
 refine WC.skip (hK2 _ _ (WC.seq (fun K4 hK4 => WC.r1 hs1 [] rfl (WC.block ?_))))
 refine WC.lS [0, 11] rfl hs1 (fun k_ f w' => ∃ (i : Nat) (q : Int), k_ = n_a - i ∧ (i ≤ n_a) ∧ (0 ≤ q) ∧ (q + n_a + ((a.take i).map (fun x => totPane (PaneR.dat x))).sum = left) ∧ Sub [(5, .int .i64 i), (1, .int .i64 q)] f) ((fun (i : Nat) (q : Int) => n_a - i) (0) ((left - n_a))) ?_ ?_
 ·refine ⟨0, (left - n_a), rfl, ?_, ?_, ?_, ⟨rfl, rfl, trivial⟩⟩
  · exact Nat.zero_le _
  · omega
  · simp
 clear hs1
 rintro _ f w ⟨i, q, rfl, p0, p1, p2, hG⟩ hF hs5
 refine WC.sub _ (hG.app hF) ?_
 clear hG hF
 refine WC.seq (fun K6 hK6 => WC.r1 hs5 [] rfl ?_)
 refine WC.cD rfl (fun qh7 => ?_) (fun qh7 => ?_)
 ·have hs1 := sum_take (F := encPaneR) (f := (fun x => totPane (PaneR.dat x))) (l := a) (i := i) (by omega)
  have hs2 := sum_take_le (f := (fun x => totPane (PaneR.dat x))) a (i + 1)
  refine WC.skip (hK6 _ _ (WC.seq (fun K8 hK8 => WC.block (WC.sr (WL.r 2 hs5 [] rfl ?_)))))
  refine WL.val rfl rfl rfl (Run.idxN Tryz.runUnderlying22 Tryz.sizeOf143 rfl rfl rfl ?_ ?_ ?_) ?_
  · exact SlF.some_ (SlF.st0 f_a.sl hs5)
  · omega
  · omega
  refine WL.val rfl rfl rfl (Run.loadA Tryz.isAgg143 Tryz.sizeOf143 rfl rfl (SlF.whole (SlF.st0 f_a.sl hs5) ?_)) ?_
  · omega
  refine WL.r 1 hs5 [] rfl (WL.cl Tryz.call98 rfl (k70_ (gat encPaneR a i) _ _ (okPaneR.st0 (SlN.nth f_a (by omega)) hs5) ?_ ?_) ?_)
  · first | assumption | omega
  · first | assumption | omega | exact szR_b (by assumption) (by omega) (by first | assumption | omega)
  rintro _ whs9 ⟨rfl, hs9⟩
  replace hs9 := hs5.call0 hs9
  refine ⟨_, rfl, WL.r 1 hs9 [] rfl (WL.nil (WC.r1 hs9 [] rfl (WC.cD rfl (fun qh10 => ?_) (fun qh10 => ?_))))⟩
  ·refine WC.r1 hs9 [] rfl (WC.ret (ibR (tkR (tkR (ibR (tkR ?_))))))
   clear hK8 hK4
   refine rtv rfl rfl hs9 ?_
   have h9 := szR_no qh10
   rw [szR_lt (by omega)]
  refine WC.skip (hK8 _ _ (WC.region (WL.r 3 hs9 [] rfl (WL.nil (tkN ?_)))))
  refine ⟨sbF rfl, hs9, _, ?_, i + 1, _, rfl, ?_, ?_, ?_, ⟨rfl, rfl, trivial⟩⟩
  · omega
  · omega
  · omega
  · have h9 := szR_ok qh10 (Int.natCast_nonneg _); omega
 refine WC.exit (hK4 _ _ (WC.r1 hs5 [] rfl (WC.ret (rtv rfl rfl hs5 ?_))))
 have h9 : a.take i = a := List.take_of_length_le (by omega)
 rw [h9] at p2
 rw [szR_le (by omega)]
 congr 1; omega
theorem k77_ (A_a : Option Addr) (n_a c_a : Nat) (a : List PaneR) (w : World) (f_a : SlN encPaneR (okPaneR 549755813888) w A_a n_a a) (hn : n_a ≤ 549755813888) :
    Calls Tryz.prog 41 #[.slice A_a n_a c_a] w fun e w' => ∃ A c xs L1, e = .returned (.slice A n_a c) ∧ St w [] L1 w' ∧ OwnN encPaneR ownPaneR 93 (.slice A n_a c) xs L1 ∧ xs.map PaneR.dat = a.map PaneR.dat := by
 have hl := f_a.sl.len
 refine enter 23 Tryz.func41 rfl Tryz.ntmps41 rfl rfl ?_
 have hs1 := St.init w
 refine WC.r1 hs1 [] rfl (WC.sr (WL.r 2 hs1 [] rfl (WL.makeF (F := encPaneR) hs1 Tryz.underlying29 inf93 rfl rfl rfl rfl rfl rfl rfl rfl rfl ?_ ?_ (fun A5 c6 L2 whs3 hs3 ho4 => ?_))))
 · have e_ : Tryz.t93.bytes = 400 := rfl
   rw [e_]; omega
 · omega
 obtain ⟨L7, hs8, ho9⟩ := OwnN.new (own := ownPaneR) hs3 ho4 (⟨[], [], [], [], [], [], rfl, (OwnF.nil _ _), (OwnF.nil _ _), (OwnF.nil _ _), (OwnF.nil _ _), (OwnF.nil _ _), (OwnN.nil _ _ _)⟩)
 refine WL.r 1 hs8 [] rfl (WL.nil (WC.seq (fun K10 hK10 => WC.r1 hs8 [] rfl (WC.block ?_))))
 refine WC.lO [0, 2] rfl hs8 (fun k_ f L_ => ∃ (i : Nat) (ys : List PaneR) (A11 : Option Addr) (c12 : Nat), k_ = n_a - i ∧ (i ≤ n_a) ∧ (ys.length = i) ∧ (ys.map PaneR.dat = (a.take i).map PaneR.dat) ∧ OwnN encPaneR ownPaneR 93 (.slice A11 (n_a) c12) (ys ++ List.replicate (n_a - i) encPaneR.dflt) L_ ∧ Sub [(3, .slice A11 (n_a) c12), (4, .int .i64 i)] f) (((fun (i : Nat) (ys : List PaneR) => n_a - i) (0) ([]))) ?_ ?_
 ·refine ⟨0, [], _, _, rfl, ?_, ?_, ?_, (by simpa using ho9), ⟨rfl, rfl, trivial⟩⟩
  · exact Nat.zero_le _
  · rfl
  · rfl
 clear hs8
 rintro _ f w L13 ⟨i, ys, A11, c12, rfl, p0, p1, p2, ho14, hG⟩ hF hs15
 refine WC.sub _ (hG.app hF) ?_
 clear hG hF
 have hlen : (ys ++ List.replicate (n_a - i) encPaneR.dflt).length = n_a := by simp; omega
 refine WC.seq (fun K16 hK16 => WC.r1 hs15 [] rfl ?_)
 refine WC.cq rfl (fun h17 qh17 => ?_) (fun h17 qh17 => ?_)
 ·refine WC.skip (hK16 _ _ (WC.seq (fun K18 hK18 => WC.block (WC.region (WL.r 4 hs15 [] rfl ?_)))))
  refine WL.val rfl rfl rfl (Run.idxN Tryz.runUnderlying22 Tryz.sizeOf143 rfl rfl rfl ?_ ?_ ?_) ?_
  · exact SlF.some_ (SlF.st0 f_a.sl hs15)
  · omega
  · omega
  refine WL.val rfl rfl rfl (Run.loadA Tryz.isAgg143 Tryz.sizeOf143 rfl rfl (SlF.whole (SlF.st0 f_a.sl hs15) ?_)) ?_
  · omega
  refine WL.cl Tryz.call102 rfl (k71_ (gat encPaneR a i) _ (okPaneR.st0 (SlN.nth f_a (by omega)) hs15)) ?_
  rintro _ whs19 ⟨r20, L1_21, rfl, hs19, ho22, hd23⟩
  replace hs19 := hs15.callF hs19
  refine ⟨_, rfl, WL.val rfl rfl rfl (Run.idxN Tryz.runUnderlying29 Tryz.sizeOf93 rfl rfl rfl ?_ ?_ ?_) ?_⟩
  · exact SlF.some_ (OwnN.sl ho14 (hs19.ow L13))
  · omega
  · omega
  obtain ⟨L24, L25, hs28, ho26, ho27⟩ := OwnN.open_ (hs19.fr L13) ho14
  refine WL.storeF1 (x' := r20) hs28 ho26 Tryz.sizeOf93 rfl rfl rfl rfl rfl rfl rfl rfl rfl ?_ rfl (fun L29 whs30 hs30 ho31 _ => ?_)
  · omega
  obtain ⟨L32, hs34, hb33⟩ := Bag.replace (r := r20) (i := i) ((hs30.fr L1_21).fr L25) ho27 (by omega) ho22
  refine WL.nil (hK18 _ _ (WC.region (WL.r 3 hs34 [] rfl (WL.nil (tkN ?_)))))
  obtain ⟨L36, hs35, ho37⟩ := OwnN.fold (hs34.fr L29) ho31 hb33
  rw [set_at p1 (by omega)] at ho37
  refine ⟨sbF rfl, _, hs35, _, ?_, i + 1, (ys ++ [r20]), _, _, rfl, ?_, ?_, ?_, ho37, ⟨rfl, rfl, trivial⟩⟩
  · omega
  · omega
  · simp; omega
  · rw [List.map_append, p2, map_take_succ (F := encPaneR) (by omega)]; congr 1 <;> simp only [List.map_cons, List.map_nil] <;> congr 1 <;> assumption
 refine WC.exit (hK10 _ _ (WC.r1 hs15 [] rfl (WC.ret (retV1 rfl (resV.tmp rfl) ?_))))
 have hi_ : i = n_a := by omega
 subst hi_
 have hx_ := ho14
 simp only [Nat.sub_self, List.replicate_zero, List.append_nil] at hx_
 exact ⟨_, _, ys, _, rfl, (St.keep1 hs15), hx_, by rw [p2, List.take_of_length_le (by omega)]⟩
theorem k78_ (A_a : Option Addr) (n_a c_a : Nat) (a : List WinR) (left : Int) (w : World) (f_a : SlN encWinR (okWinR 9223372036854775807) w A_a n_a a) (h1 : 0 ≤ left) (h2 : left ≤ 1048576) (h3 : n_a ≤ 9223372036854775807) :
    Calls Tryz.prog 37 #[.slice A_a n_a c_a, i64 left] w fun e w' => e = .returned (.int .i64 (szR left (tots totWin (a.map WinR.dat)))) ∧ St w [] [] w' := by
 have hl := f_a.sl.len
 have hT : (tots totWin (a.map WinR.dat) : Int) = n_a + (a.map (fun x => totWin (WinR.dat x))).sum := by rw [tots_map, hl]; omega
 refine enter 27 Tryz.func37 rfl Tryz.ntmps37 rfl rfl ?_
 have hs1 := St.init w
 refine WC.r1 hs1 [] rfl (WC.r1 hs1 [] rfl (WC.seq (fun K2 hK2 => WC.r1 hs1 [] rfl ?_)))
 refine WC.cD rfl (fun qh3 => ?_) (fun qh3 => ?_)
 ·refine WC.r1 hs1 [] rfl (WC.ret (tkR ?_))
  clear hK2
  refine rtv rfl rfl hs1 ?_
  rw [szR_lt (by omega)]
 refine WC.skip (hK2 _ _ (WC.seq (fun K4 hK4 => WC.r1 hs1 [] rfl (WC.block ?_))))
 refine WC.lS [0, 11] rfl hs1 (fun k_ f w' => ∃ (i : Nat) (q : Int), k_ = n_a - i ∧ (i ≤ n_a) ∧ (0 ≤ q) ∧ (q + n_a + ((a.take i).map (fun x => totWin (WinR.dat x))).sum = left) ∧ Sub [(5, .int .i64 i), (1, .int .i64 q)] f) ((fun (i : Nat) (q : Int) => n_a - i) (0) ((left - n_a))) ?_ ?_
 ·refine ⟨0, (left - n_a), rfl, ?_, ?_, ?_, ⟨rfl, rfl, trivial⟩⟩
  · exact Nat.zero_le _
  · omega
  · simp
 clear hs1
 rintro _ f w ⟨i, q, rfl, p0, p1, p2, hG⟩ hF hs5
 refine WC.sub _ (hG.app hF) ?_
 clear hG hF
 refine WC.seq (fun K6 hK6 => WC.r1 hs5 [] rfl ?_)
 refine WC.cD rfl (fun qh7 => ?_) (fun qh7 => ?_)
 ·have hs1 := sum_take (F := encWinR) (f := (fun x => totWin (WinR.dat x))) (l := a) (i := i) (by omega)
  have hs2 := sum_take_le (f := (fun x => totWin (WinR.dat x))) a (i + 1)
  refine WC.skip (hK6 _ _ (WC.seq (fun K8 hK8 => WC.block (WC.sr (WL.r 2 hs5 [] rfl ?_)))))
  refine WL.val rfl rfl rfl (Run.idxN Tryz.runUnderlying23 Tryz.sizeOf147 rfl rfl rfl ?_ ?_ ?_) ?_
  · exact SlF.some_ (SlF.st0 f_a.sl hs5)
  · omega
  · omega
  refine WL.val rfl rfl rfl (Run.loadA Tryz.isAgg147 Tryz.sizeOf147 rfl rfl (SlF.whole (SlF.st0 f_a.sl hs5) ?_)) ?_
  · omega
  refine WL.r 1 hs5 [] rfl (WL.cl Tryz.call99 rfl (k72_ (gat encWinR a i) _ _ (okWinR.st0 (SlN.nth f_a (by omega)) hs5) ?_ ?_) ?_)
  · first | assumption | omega
  · first | assumption | omega | exact szR_b (by assumption) (by omega) (by first | assumption | omega)
  rintro _ whs9 ⟨rfl, hs9⟩
  replace hs9 := hs5.call0 hs9
  refine ⟨_, rfl, WL.r 1 hs9 [] rfl (WL.nil (WC.r1 hs9 [] rfl (WC.cD rfl (fun qh10 => ?_) (fun qh10 => ?_))))⟩
  ·refine WC.r1 hs9 [] rfl (WC.ret (ibR (tkR (tkR (ibR (tkR ?_))))))
   clear hK8 hK4
   refine rtv rfl rfl hs9 ?_
   have h9 := szR_no qh10
   rw [szR_lt (by omega)]
  refine WC.skip (hK8 _ _ (WC.region (WL.r 3 hs9 [] rfl (WL.nil (tkN ?_)))))
  refine ⟨sbF rfl, hs9, _, ?_, i + 1, _, rfl, ?_, ?_, ?_, ⟨rfl, rfl, trivial⟩⟩
  · omega
  · omega
  · omega
  · have h9 := szR_ok qh10 (Int.natCast_nonneg _); omega
 refine WC.exit (hK4 _ _ (WC.r1 hs5 [] rfl (WC.ret (rtv rfl rfl hs5 ?_))))
 have h9 : a.take i = a := List.take_of_length_le (by omega)
 rw [h9] at p2
 rw [szR_le (by omega)]
 congr 1; omega
theorem k79_ (A_a : Option Addr) (n_a c_a : Nat) (a : List WinR) (w : World) (f_a : SlN encWinR (okWinR 549755813888) w A_a n_a a) (hn : n_a ≤ 549755813888) :
    Calls Tryz.prog 42 #[.slice A_a n_a c_a] w fun e w' => ∃ A c xs L1, e = .returned (.slice A n_a c) ∧ St w [] L1 w' ∧ OwnN encWinR ownWinR 58 (.slice A n_a c) xs L1 ∧ xs.map WinR.dat = a.map WinR.dat := by
 have hl := f_a.sl.len
 refine enter 23 Tryz.func42 rfl Tryz.ntmps42 rfl rfl ?_
 have hs1 := St.init w
 refine WC.r1 hs1 [] rfl (WC.sr (WL.r 2 hs1 [] rfl (WL.makeF (F := encWinR) hs1 Tryz.underlying30 inf58 rfl rfl rfl rfl rfl rfl rfl rfl rfl ?_ ?_ (fun A5 c6 L2 whs3 hs3 ho4 => ?_))))
 · have e_ : Tryz.t58.bytes = 64 := rfl
   rw [e_]; omega
 · omega
 obtain ⟨L7, hs8, ho9⟩ := OwnN.new (own := ownWinR) hs3 ho4 (OwnF.nil _ _)
 refine WL.r 1 hs8 [] rfl (WL.nil (WC.seq (fun K10 hK10 => WC.r1 hs8 [] rfl (WC.block ?_))))
 refine WC.lO [0, 2] rfl hs8 (fun k_ f L_ => ∃ (i : Nat) (ys : List WinR) (A11 : Option Addr) (c12 : Nat), k_ = n_a - i ∧ (i ≤ n_a) ∧ (ys.length = i) ∧ (ys.map WinR.dat = (a.take i).map WinR.dat) ∧ OwnN encWinR ownWinR 58 (.slice A11 (n_a) c12) (ys ++ List.replicate (n_a - i) encWinR.dflt) L_ ∧ Sub [(3, .slice A11 (n_a) c12), (4, .int .i64 i)] f) (((fun (i : Nat) (ys : List WinR) => n_a - i) (0) ([]))) ?_ ?_
 ·refine ⟨0, [], _, _, rfl, ?_, ?_, ?_, (by simpa using ho9), ⟨rfl, rfl, trivial⟩⟩
  · exact Nat.zero_le _
  · rfl
  · rfl
 clear hs8
 rintro _ f w L13 ⟨i, ys, A11, c12, rfl, p0, p1, p2, ho14, hG⟩ hF hs15
 refine WC.sub _ (hG.app hF) ?_
 clear hG hF
 have hlen : (ys ++ List.replicate (n_a - i) encWinR.dflt).length = n_a := by simp; omega
 refine WC.seq (fun K16 hK16 => WC.r1 hs15 [] rfl ?_)
 refine WC.cq rfl (fun h17 qh17 => ?_) (fun h17 qh17 => ?_)
 ·refine WC.skip (hK16 _ _ (WC.seq (fun K18 hK18 => WC.block (WC.region (WL.r 4 hs15 [] rfl ?_)))))
  refine WL.val rfl rfl rfl (Run.idxN Tryz.runUnderlying23 Tryz.sizeOf147 rfl rfl rfl ?_ ?_ ?_) ?_
  · exact SlF.some_ (SlF.st0 f_a.sl hs15)
  · omega
  · omega
  refine WL.val rfl rfl rfl (Run.loadA Tryz.isAgg147 Tryz.sizeOf147 rfl rfl (SlF.whole (SlF.st0 f_a.sl hs15) ?_)) ?_
  · omega
  refine WL.cl Tryz.call103 rfl (k73_ (gat encWinR a i) _ (okWinR.st0 (SlN.nth f_a (by omega)) hs15)) ?_
  rintro _ whs19 ⟨r20, L1_21, rfl, hs19, ho22, hd23⟩
  replace hs19 := hs15.callF hs19
  refine ⟨_, rfl, WL.val rfl rfl rfl (Run.idxN Tryz.runUnderlying30 Tryz.sizeOf58 rfl rfl rfl ?_ ?_ ?_) ?_⟩
  · exact SlF.some_ (OwnN.sl ho14 (hs19.ow L13))
  · omega
  · omega
  obtain ⟨L24, L25, hs28, ho26, ho27⟩ := OwnN.open_ (hs19.fr L13) ho14
  refine WL.storeF1 (x' := r20) hs28 ho26 Tryz.sizeOf58 rfl rfl rfl rfl rfl rfl rfl rfl rfl ?_ rfl (fun L29 whs30 hs30 ho31 _ => ?_)
  · omega
  obtain ⟨L32, hs34, hb33⟩ := Bag.replace (r := r20) (i := i) ((hs30.fr L1_21).fr L25) ho27 (by omega) ho22
  refine WL.nil (hK18 _ _ (WC.region (WL.r 3 hs34 [] rfl (WL.nil (tkN ?_)))))
  obtain ⟨L36, hs35, ho37⟩ := OwnN.fold (hs34.fr L29) ho31 hb33
  rw [set_at p1 (by omega)] at ho37
  refine ⟨sbF rfl, _, hs35, _, ?_, i + 1, (ys ++ [r20]), _, _, rfl, ?_, ?_, ?_, ho37, ⟨rfl, rfl, trivial⟩⟩
  · omega
  · omega
  · simp; omega
  · rw [List.map_append, p2, map_take_succ (F := encWinR) (by omega)]; congr 1 <;> simp only [List.map_cons, List.map_nil] <;> congr 1 <;> assumption
 refine WC.exit (hK10 _ _ (WC.r1 hs15 [] rfl (WC.ret (retV1 rfl (resV.tmp rfl) ?_))))
 have hi_ : i = n_a := by omega
 subst hi_
 have hx_ := ho14
 simp only [Nat.sub_self, List.replicate_zero, List.append_nil] at hx_
 exact ⟨_, _, ys, _, rfl, (St.keep1 hs15), hx_, by rw [p2, List.take_of_length_le (by omega)]⟩
theorem k80_ (A_a : Option Addr) (n_a c_a : Nat) (a : List SessR) (left : Int) (w : World) (f_a : SlN encSessR (okSessR 9223372036854775807) w A_a n_a a) (h1 : 0 ≤ left) (h2 : left ≤ 1048576) (h3 : n_a ≤ 9223372036854775807) :
    Calls Tryz.prog 38 #[.slice A_a n_a c_a, i64 left] w fun e w' => e = .returned (.int .i64 (szR left (tots totSess (a.map SessR.dat)))) ∧ St w [] [] w' := by
 have hl := f_a.sl.len
 have hT : (tots totSess (a.map SessR.dat) : Int) = n_a + (a.map (fun x => totSess (SessR.dat x))).sum := by rw [tots_map, hl]; omega
 refine enter 27 Tryz.func38 rfl Tryz.ntmps38 rfl rfl ?_
 have hs1 := St.init w
 refine WC.r1 hs1 [] rfl (WC.r1 hs1 [] rfl (WC.seq (fun K2 hK2 => WC.r1 hs1 [] rfl ?_)))
 refine WC.cD rfl (fun qh3 => ?_) (fun qh3 => ?_)
 ·refine WC.r1 hs1 [] rfl (WC.ret (tkR ?_))
  clear hK2
  refine rtv rfl rfl hs1 ?_
  rw [szR_lt (by omega)]
 refine WC.skip (hK2 _ _ (WC.seq (fun K4 hK4 => WC.r1 hs1 [] rfl (WC.block ?_))))
 refine WC.lS [0, 11] rfl hs1 (fun k_ f w' => ∃ (i : Nat) (q : Int), k_ = n_a - i ∧ (i ≤ n_a) ∧ (0 ≤ q) ∧ (q + n_a + ((a.take i).map (fun x => totSess (SessR.dat x))).sum = left) ∧ Sub [(5, .int .i64 i), (1, .int .i64 q)] f) ((fun (i : Nat) (q : Int) => n_a - i) (0) ((left - n_a))) ?_ ?_
 ·refine ⟨0, (left - n_a), rfl, ?_, ?_, ?_, ⟨rfl, rfl, trivial⟩⟩
  · exact Nat.zero_le _
  · omega
  · simp
 clear hs1
 rintro _ f w ⟨i, q, rfl, p0, p1, p2, hG⟩ hF hs5
 refine WC.sub _ (hG.app hF) ?_
 clear hG hF
 refine WC.seq (fun K6 hK6 => WC.r1 hs5 [] rfl ?_)
 refine WC.cD rfl (fun qh7 => ?_) (fun qh7 => ?_)
 ·have hs1 := sum_take (F := encSessR) (f := (fun x => totSess (SessR.dat x))) (l := a) (i := i) (by omega)
  have hs2 := sum_take_le (f := (fun x => totSess (SessR.dat x))) a (i + 1)
  refine WC.skip (hK6 _ _ (WC.seq (fun K8 hK8 => WC.block (WC.sr (WL.r 2 hs5 [] rfl ?_)))))
  refine WL.val rfl rfl rfl (Run.idxN Tryz.runUnderlying24 Tryz.sizeOf149 rfl rfl rfl ?_ ?_ ?_) ?_
  · exact SlF.some_ (SlF.st0 f_a.sl hs5)
  · omega
  · omega
  refine WL.val rfl rfl rfl (Run.loadA Tryz.isAgg149 Tryz.sizeOf149 rfl rfl (SlF.whole (SlF.st0 f_a.sl hs5) ?_)) ?_
  · omega
  refine WL.r 1 hs5 [] rfl (WL.cl Tryz.call100 rfl (k74_ (gat encSessR a i) _ _ (okSessR.st0 (SlN.nth f_a (by omega)) hs5) ?_ ?_) ?_)
  · first | assumption | omega
  · first | assumption | omega | exact szR_b (by assumption) (by omega) (by first | assumption | omega)
  rintro _ whs9 ⟨rfl, hs9⟩
  replace hs9 := hs5.call0 hs9
  refine ⟨_, rfl, WL.r 1 hs9 [] rfl (WL.nil (WC.r1 hs9 [] rfl (WC.cD rfl (fun qh10 => ?_) (fun qh10 => ?_))))⟩
  ·refine WC.r1 hs9 [] rfl (WC.ret (ibR (tkR (tkR (ibR (tkR ?_))))))
   clear hK8 hK4
   refine rtv rfl rfl hs9 ?_
   have h9 := szR_no qh10
   rw [szR_lt (by omega)]
  refine WC.skip (hK8 _ _ (WC.region (WL.r 3 hs9 [] rfl (WL.nil (tkN ?_)))))
  refine ⟨sbF rfl, hs9, _, ?_, i + 1, _, rfl, ?_, ?_, ?_, ⟨rfl, rfl, trivial⟩⟩
  · omega
  · omega
  · omega
  · have h9 := szR_ok qh10 (Int.natCast_nonneg _); omega
 refine WC.exit (hK4 _ _ (WC.r1 hs5 [] rfl (WC.ret (rtv rfl rfl hs5 ?_))))
 have h9 : a.take i = a := List.take_of_length_le (by omega)
 rw [h9] at p2
 rw [szR_le (by omega)]
 congr 1; omega
theorem k81_ (A_a : Option Addr) (n_a c_a : Nat) (a : List SessR) (w : World) (f_a : SlN encSessR (okSessR 549755813888) w A_a n_a a) (hn : n_a ≤ 549755813888) :
    Calls Tryz.prog 43 #[.slice A_a n_a c_a] w fun e w' => ∃ A c xs L1, e = .returned (.slice A n_a c) ∧ St w [] L1 w' ∧ OwnN encSessR ownSessR 106 (.slice A n_a c) xs L1 ∧ xs.map SessR.dat = a.map SessR.dat := by
 have hl := f_a.sl.len
 refine enter 23 Tryz.func43 rfl Tryz.ntmps43 rfl rfl ?_
 have hs1 := St.init w
 refine WC.r1 hs1 [] rfl (WC.sr (WL.r 2 hs1 [] rfl (WL.makeF (F := encSessR) hs1 Tryz.underlying31 inf106 rfl rfl rfl rfl rfl rfl rfl rfl rfl ?_ ?_ (fun A5 c6 L2 whs3 hs3 ho4 => ?_))))
 · have e_ : Tryz.t106.bytes = 48 := rfl
   rw [e_]; omega
 · omega
 obtain ⟨L7, hs8, ho9⟩ := OwnN.new (own := ownSessR) hs3 ho4 (OwnF.nil _ _)
 refine WL.r 1 hs8 [] rfl (WL.nil (WC.seq (fun K10 hK10 => WC.r1 hs8 [] rfl (WC.block ?_))))
 refine WC.lO [0, 2] rfl hs8 (fun k_ f L_ => ∃ (i : Nat) (ys : List SessR) (A11 : Option Addr) (c12 : Nat), k_ = n_a - i ∧ (i ≤ n_a) ∧ (ys.length = i) ∧ (ys.map SessR.dat = (a.take i).map SessR.dat) ∧ OwnN encSessR ownSessR 106 (.slice A11 (n_a) c12) (ys ++ List.replicate (n_a - i) encSessR.dflt) L_ ∧ Sub [(3, .slice A11 (n_a) c12), (4, .int .i64 i)] f) (((fun (i : Nat) (ys : List SessR) => n_a - i) (0) ([]))) ?_ ?_
 ·refine ⟨0, [], _, _, rfl, ?_, ?_, ?_, (by simpa using ho9), ⟨rfl, rfl, trivial⟩⟩
  · exact Nat.zero_le _
  · rfl
  · rfl
 clear hs8
 rintro _ f w L13 ⟨i, ys, A11, c12, rfl, p0, p1, p2, ho14, hG⟩ hF hs15
 refine WC.sub _ (hG.app hF) ?_
 clear hG hF
 have hlen : (ys ++ List.replicate (n_a - i) encSessR.dflt).length = n_a := by simp; omega
 refine WC.seq (fun K16 hK16 => WC.r1 hs15 [] rfl ?_)
 refine WC.cq rfl (fun h17 qh17 => ?_) (fun h17 qh17 => ?_)
 ·refine WC.skip (hK16 _ _ (WC.seq (fun K18 hK18 => WC.block (WC.region (WL.r 4 hs15 [] rfl ?_)))))
  refine WL.val rfl rfl rfl (Run.idxN Tryz.runUnderlying24 Tryz.sizeOf149 rfl rfl rfl ?_ ?_ ?_) ?_
  · exact SlF.some_ (SlF.st0 f_a.sl hs15)
  · omega
  · omega
  refine WL.val rfl rfl rfl (Run.loadA Tryz.isAgg149 Tryz.sizeOf149 rfl rfl (SlF.whole (SlF.st0 f_a.sl hs15) ?_)) ?_
  · omega
  refine WL.cl Tryz.call104 rfl (k75_ (gat encSessR a i) _ (okSessR.st0 (SlN.nth f_a (by omega)) hs15)) ?_
  rintro _ whs19 ⟨r20, L1_21, rfl, hs19, ho22, hd23⟩
  replace hs19 := hs15.callF hs19
  refine ⟨_, rfl, WL.val rfl rfl rfl (Run.idxN Tryz.runUnderlying31 Tryz.sizeOf106 rfl rfl rfl ?_ ?_ ?_) ?_⟩
  · exact SlF.some_ (OwnN.sl ho14 (hs19.ow L13))
  · omega
  · omega
  obtain ⟨L24, L25, hs28, ho26, ho27⟩ := OwnN.open_ (hs19.fr L13) ho14
  refine WL.storeF1 (x' := r20) hs28 ho26 Tryz.sizeOf106 rfl rfl rfl rfl rfl rfl rfl rfl rfl ?_ rfl (fun L29 whs30 hs30 ho31 _ => ?_)
  · omega
  obtain ⟨L32, hs34, hb33⟩ := Bag.replace (r := r20) (i := i) ((hs30.fr L1_21).fr L25) ho27 (by omega) ho22
  refine WL.nil (hK18 _ _ (WC.region (WL.r 3 hs34 [] rfl (WL.nil (tkN ?_)))))
  obtain ⟨L36, hs35, ho37⟩ := OwnN.fold (hs34.fr L29) ho31 hb33
  rw [set_at p1 (by omega)] at ho37
  refine ⟨sbF rfl, _, hs35, _, ?_, i + 1, (ys ++ [r20]), _, _, rfl, ?_, ?_, ?_, ho37, ⟨rfl, rfl, trivial⟩⟩
  · omega
  · omega
  · simp; omega
  · rw [List.map_append, p2, map_take_succ (F := encSessR) (by omega)]; congr 1 <;> simp only [List.map_cons, List.map_nil] <;> congr 1 <;> assumption
 refine WC.exit (hK10 _ _ (WC.r1 hs15 [] rfl (WC.ret (retV1 rfl (resV.tmp rfl) ?_))))
 have hi_ : i = n_a := by omega
 subst hi_
 have hx_ := ho14
 simp only [Nat.sub_self, List.replicate_zero, List.append_nil] at hx_
 exact ⟨_, _, ys, _, rfl, (St.keep1 hs15), hx_, by rw [p2, List.take_of_length_le (by omega)]⟩
set_option maxHeartbeats 4000000 in
theorem k82_ (a : StateR) (left : Int) (w : World) (f_a : okStateR 9223372036854775807 w a) (h1 : 0 ≤ left) (h2 : left ≤ 1048576) :
    Calls Tryz.prog 11 #[.agg #[i64 a.W, i64 a.H, i64 a.Limit, i64 a.Next, .slice a.Panes.A a.Panes.n a.Panes.c, .slice a.Wins.A a.Wins.n a.Wins.c, .slice a.Sess.A a.Sess.n a.Sess.c], i64 left] w fun e w' => e = .returned (.int .i64 (szR left (totState a.dat))) ∧ St w [] [] w' := by
 have nb_a_Panes := f_a.Panes_n
 have nl_a_Panes := f_a.Panes.sl.len
 have nb_a_Wins := f_a.Wins_n
 have nl_a_Wins := f_a.Wins.sl.len
 have nb_a_Sess := f_a.Sess_n
 have nl_a_Sess := f_a.Sess.sl.len
 refine enter 24 Tryz.func11 rfl Tryz.ntmps11 rfl rfl ?_
 have hs1 := St.init w
 refine WC.sr (WL.bx hs1 rfl (fun b2 _ hs3 => WL.r 1 hs3 [] rfl (WL.nil (WC.sr (WL.r 3 hs3 [0] rfl ?_)))))
 refine WL.cl Tryz.call36 rfl (k76_ _ _ _ _ _ _ (SlN.st0 okPaneR.st0 f_a.Panes hs3) ?_ ?_ ?_) ?_
 · first | assumption | omega
 · first | assumption | omega | exact szR_b (by assumption) (by omega) (by first | assumption | omega)
 · first | assumption | omega
 rintro _ whs4 ⟨rfl, hs4⟩
 replace hs4 := hs3.call0 hs4
 refine ⟨_, rfl, WL.r 1 hs4 [] rfl (WL.nil (WC.seq (fun K5 hK5 => WC.r1 hs4 [] rfl ?_)))⟩
 refine WC.cD rfl (fun qh6 => ?_) (fun qh6 => ?_)
 ·try have soh6 := szR_ok qh6 (by omega)
  try have sbh6 := szR_b qh6 (by omega) (by first | assumption | omega)
  try have snh6 := szR_no qh6
  refine WC.r1 hs4 [] rfl (WC.ret (tkR ?_))
  clear hK5
  refine rtv rfl rfl hs4 ?_
  simp only [totState, StateR.dat] at *; first | (rw [szR_lt (by omega)]; done) | (refine congrArg (Value.int _) ?_; symm; refine (szR_le ?_).trans ?_ <;> omega) | rfl
 try have soh6 := szR_ok qh6 (by omega)
 try have sbh6 := szR_b qh6 (by omega) (by first | assumption | omega)
 try have snh6 := szR_no qh6
 refine WC.skip (hK5 _ _ (WC.sr (WL.r 3 hs4 [0] rfl ?_)))
 refine WL.cl Tryz.call37 rfl (k78_ _ _ _ _ _ _ (SlN.st0 okWinR.st0 f_a.Wins hs4) ?_ ?_ ?_) ?_
 · first | assumption | omega
 · first | assumption | omega | exact szR_b (by assumption) (by omega) (by first | assumption | omega)
 · first | assumption | omega
 rintro _ whs7 ⟨rfl, hs7⟩
 replace hs7 := hs4.call0 hs7
 refine ⟨_, rfl, WL.r 1 hs7 [] rfl (WL.nil (WC.seq (fun K8 hK8 => WC.r1 hs7 [] rfl ?_)))⟩
 refine WC.cD rfl (fun qh9 => ?_) (fun qh9 => ?_)
 ·try have soh9 := szR_ok qh9 (by omega)
  try have sbh9 := szR_b qh9 (by omega) (by first | assumption | omega)
  try have snh9 := szR_no qh9
  refine WC.r1 hs7 [] rfl (WC.ret (tkR ?_))
  clear hK8
  refine rtv rfl rfl hs7 ?_
  simp only [totState, StateR.dat] at *; first | (rw [szR_lt (by omega)]; done) | (refine congrArg (Value.int _) ?_; symm; refine (szR_le ?_).trans ?_ <;> omega) | rfl
 try have soh9 := szR_ok qh9 (by omega)
 try have sbh9 := szR_b qh9 (by omega) (by first | assumption | omega)
 try have snh9 := szR_no qh9
 refine WC.skip (hK8 _ _ (WC.sr (WL.r 3 hs7 [0] rfl ?_)))
 refine WL.cl Tryz.call38 rfl (k80_ _ _ _ _ _ _ (SlN.st0 okSessR.st0 f_a.Sess hs7) ?_ ?_ ?_) ?_
 · first | assumption | omega
 · first | assumption | omega | exact szR_b (by assumption) (by omega) (by first | assumption | omega)
 · first | assumption | omega
 rintro _ whs10 ⟨rfl, hs10⟩
 replace hs10 := hs7.call0 hs10
 refine ⟨_, rfl, WL.r 1 hs10 [] rfl (WL.nil (WC.seq (fun K11 hK11 => WC.r1 hs10 [] rfl ?_)))⟩
 refine WC.cD rfl (fun qh12 => ?_) (fun qh12 => ?_)
 ·try have soh12 := szR_ok qh12 (by omega)
  try have sbh12 := szR_b qh12 (by omega) (by first | assumption | omega)
  try have snh12 := szR_no qh12
  refine WC.r1 hs10 [] rfl (WC.ret (tkR ?_))
  clear hK11
  refine rtv rfl rfl hs10 ?_
  simp only [totState, StateR.dat] at *; first | (rw [szR_lt (by omega)]; done) | (refine congrArg (Value.int _) ?_; symm; refine (szR_le ?_).trans ?_ <;> omega) | rfl
 try have soh12 := szR_ok qh12 (by omega)
 try have sbh12 := szR_b qh12 (by omega) (by first | assumption | omega)
 try have snh12 := szR_no qh12
 refine WC.skip (hK11 _ _ (WC.r1 hs10 [] rfl (WC.ret (rtv rfl rfl hs10 ?_))))
 simp only [totState, StateR.dat] at *; first | (rw [szR_lt (by omega)]; done) | (refine congrArg (Value.int _) ?_; symm; refine (szR_le ?_).trans ?_ <;> omega) | rfl
set_option maxHeartbeats 4000000 in
theorem k83_ (a : StateR) (w : World) (f_a : okStateR 549755813888 w a) :
    Calls Tryz.prog 13 #[.agg #[i64 a.W, i64 a.H, i64 a.Limit, i64 a.Next, .slice a.Panes.A a.Panes.n a.Panes.c, .slice a.Wins.A a.Wins.n a.Wins.c, .slice a.Sess.A a.Sess.n a.Sess.c]] w fun e w' => ∃ r L1, e = .returned (.agg #[i64 r.W, i64 r.H, i64 r.Limit, i64 r.Next, .slice r.Panes.A r.Panes.n r.Panes.c, .slice r.Wins.A r.Wins.n r.Wins.c, .slice r.Sess.A r.Sess.n r.Sess.c]) ∧ St w [] L1 w' ∧ ownStateR r L1 ∧ r.dat = a.dat := by
 have nb_a_Panes := f_a.Panes_n
 have nl_a_Panes := f_a.Panes.sl.len
 have nb_a_Wins := f_a.Wins_n
 have nl_a_Wins := f_a.Wins.sl.len
 have nb_a_Sess := f_a.Sess_n
 have nl_a_Sess := f_a.Sess.sl.len
 refine enter 29 Tryz.func13 rfl Tryz.ntmps13 rfl rfl ?_
 have hs1 := St.init w
 refine WC.sr (WL.bx hs1 rfl (fun b2 _ hs3 => WL.al hs3 Tryz.zeroValue33 rfl rfl (fun b4 _ hs5 => WL.nil (WC.sr (WL.al hs5 Tryz.zeroValue33 rfl rfl (fun b6 _ hs7 => WL.nil (WC.sr ?_)))))))
 refine WL.r 3 hs7 [2] rfl (WL.st tbk hs7 0 rfl rfl (fun _ hs8 => WL.nil (WC.sr (WL.r 3 hs8 [2] rfl (WL.st tbk hs8 0 rfl rfl (fun _ hs9 => WL.nil (WC.sr ?_)))))))
 refine WL.r 3 hs9 [2] rfl (WL.st tbk hs9 0 rfl rfl (fun _ hs10 => WL.nil (WC.sr (WL.r 3 hs10 [2] rfl (WL.st tbk hs10 0 rfl rfl (fun _ hs11 => WL.nil (WC.sr ?_)))))))
 refine WL.r 2 hs11 [2] rfl (WL.cl Tryz.call41 rfl (k77_ _ _ _ _ _ (SlN.st0 okPaneR.st0 f_a.Panes hs11) ?_) ?_)
 · first | assumption | rfl | omega
 rintro _ whs12 ⟨A13, c14, xs15, L1_16, rfl, hs12, ho17, hd18⟩
 replace hs12 := hs11.callF hs12
 refine ⟨_, rfl, ?_⟩
 replace hs12 := St.back [_, _, _] hs12
 refine WL.r 1 hs12 [] rfl (WL.st tbk hs12 0 rfl rfl (fun _ hs19 => WL.nil (WC.sr (WL.r 2 hs19 [2] rfl ?_))))
 refine WL.cl Tryz.call42 rfl (k79_ _ _ _ _ _ (SlN.st0 okWinR.st0 f_a.Wins hs19) ?_) ?_
 · first | assumption | rfl | omega
 rintro _ whs20 ⟨A21, c22, xs23, L1_24, rfl, hs20, ho25, hd26⟩
 replace hs20 := hs19.callF hs20
 refine ⟨_, rfl, ?_⟩
 replace hs20 := St.back [_, _, _] hs20
 refine WL.r 1 hs20 [] rfl (WL.st tbk hs20 0 rfl rfl (fun _ hs27 => WL.nil (WC.sr (WL.r 2 hs27 [2] rfl ?_))))
 refine WL.cl Tryz.call43 rfl (k81_ _ _ _ _ _ (SlN.st0 okSessR.st0 f_a.Sess hs27) ?_) ?_
 · first | assumption | rfl | omega
 rintro _ whs28 ⟨A29, c30, xs31, L1_32, rfl, hs28, ho33, hd34⟩
 replace hs28 := hs27.callF hs28
 refine ⟨_, rfl, ?_⟩
 replace hs28 := St.back [_, _, _] hs28
 refine WL.r 1 hs28 [] rfl (WL.st tbk hs28 0 rfl rfl (fun _ hs35 => WL.nil (WC.sr (WL.r 1 hs35 [0] rfl (WL.st tbk hs35 1 rfl rfl (fun _ hs36 => WL.nil (WC.ret ?_)))))))
 refine retV1 rfl (resV.cellA tbk hs36 1 rfl rfl rfl rfl) ?_
 obtain ⟨L38, hs37, ho39⟩ := ownStateR.fl hs36 ho17 ho25 ho33
 have hs40 := (((hs37.fb b2).fb b4).fb b6)
 refine ⟨⟨a.W, a.H, a.Limit, a.Next, SlD.ofN ho17, SlD.ofN ho25, SlD.ofN ho33⟩, _, rfl, (St.keep1 (hs40.fr L38)), ?_, ?_⟩
 · exact (by exact ho39)
 · exact StateD.ext' rfl rfl rfl rfl hd18 hd26 hd34
set_option maxHeartbeats 4000000 in
theorem k84_ (a : GridR) (b : GridR) (w : World) (f_a : okGridR 549755813888 w a) (f_b : okGridR 549755813888 w b) (hab : a.dat = b.dat) :
    Calls Tryz.prog 260 #[.agg #[i64 a.W, i64 a.H, .slice a.Cells.A a.Cells.n a.Cells.c], .agg #[i64 b.W, i64 b.H, .slice b.Cells.A b.Cells.n b.Cells.c]] w fun e w' => e = .returned (.bool true) ∧ St w [] [] w' := by
 have nb_a_Cells := f_a.Cells_n
 have nl_a_Cells := f_a.Cells.len
 have nb_b_Cells := f_b.Cells_n
 have nl_b_Cells := f_b.Cells.len
 have e_W : a.W = b.W := congrArg (fun d : GridD => d.W) hab
 have e_H : a.H = b.H := congrArg (fun d : GridD => d.H) hab
 have e_Cells : a.Cells.xs = b.Cells.xs := congrArg (fun d : GridD => d.Cells) hab
 refine enter 21 Tryz.func260 rfl Tryz.ntmps260 rfl rfl ?_
 have hs1 := St.init w
 refine WC.sr (WL.bx hs1 rfl (fun b2 _ hs3 => WL.bx hs3 rfl (fun b4 _ hs5 => WL.r 1 hs5 [] rfl (WL.nil (WC.seq (fun K6 hK6 => WC.r1 hs5 [1, 0] rfl (WC.condF rfl (by simp [e_W, e_H]) ?_)))))))
 refine WC.skip (hK6 _ _ (WC.seq (fun K8 hK8 => WC.r1 hs5 [1, 0] rfl (WC.condF rfl (by simp [e_W, e_H]) (WC.skip (hK8 _ _ (WC.seq (fun K10 hK10 => ?_))))))))
 refine WC.sr (WL.r 4 hs5 [1, 0] rfl (WL.cl Tryz.call287 rfl (k10_ _ _ _ _ _ _ _ _ _ (SlF.st0 f_a.Cells hs5) (SlF.st0 f_b.Cells hs5) ?_ ?_) ?_))
 iterate 2 first | assumption | rfl | omega
 rintro _ whs11 ⟨rfl, hs11⟩
 replace hs11 := hs5.call0 hs11
 refine ⟨_, rfl, WL.r 1 hs11 [] rfl (WL.nil (WC.condF rfl (by simp [e_W, e_H]) (WC.skip (hK10 _ _ (WC.r1 hs11 [] rfl (WC.ret ?_))))))⟩
 refine rtv rfl rfl hs11 ?_
 rfl
set_option maxHeartbeats 4000000 in
theorem k85_ (a : VpR) (b : VpR) (w : World) (f_a : okVpR 549755813888 w a) (f_b : okVpR 549755813888 w b) (hab : a.dat = b.dat) :
    Calls Tryz.prog 211 #[.agg #[i64 a.State, .bool a.Mark, .slice a.Args.A a.Args.n a.Args.c, .slice a.Part.A a.Part.n a.Part.c], .agg #[i64 b.State, .bool b.Mark, .slice b.Args.A b.Args.n b.Args.c, .slice b.Part.A b.Part.n b.Part.c]] w fun e w' => e = .returned (.bool true) ∧ St w [] [] w' := by
 have nb_a_Args := f_a.Args_n
 have nl_a_Args := f_a.Args.len
 have nb_a_Part := f_a.Part_n
 have nl_a_Part := f_a.Part.len
 have nb_b_Args := f_b.Args_n
 have nl_b_Args := f_b.Args.len
 have nb_b_Part := f_b.Part_n
 have nl_b_Part := f_b.Part.len
 have e_State : a.State = b.State := congrArg (fun d : VpD => d.State) hab
 have e_Mark : a.Mark = b.Mark := congrArg (fun d : VpD => d.Mark) hab
 have e_Args : a.Args.xs = b.Args.xs := congrArg (fun d : VpD => d.Args) hab
 have e_Part : a.Part.xs = b.Part.xs := congrArg (fun d : VpD => d.Part) hab
 refine enter 27 Tryz.func211 rfl Tryz.ntmps211 rfl rfl ?_
 have hs1 := St.init w
 refine WC.sr (WL.bx hs1 rfl (fun b2 _ hs3 => WL.bx hs3 rfl (fun b4 _ hs5 => WL.r 1 hs5 [] rfl (WL.nil (WC.seq (fun K6 hK6 => WC.r1 hs5 [1, 0] rfl (WC.condF rfl (by simp [e_State, e_Mark]) ?_)))))))
 refine WC.skip (hK6 _ _ (WC.seq (fun K8 hK8 => WC.r1 hs5 [1, 0] rfl (WC.condF rfl (by simp [e_State, e_Mark]) (WC.skip (hK8 _ _ (WC.seq (fun K10 hK10 => ?_))))))))
 refine WC.sr (WL.r 4 hs5 [1, 0] rfl (WL.cl Tryz.call171 rfl (k12_ _ _ _ _ _ _ _ _ _ (SlF.st0 f_a.Args hs5) (SlF.st0 f_b.Args hs5) ?_ ?_) ?_))
 iterate 2 first | assumption | rfl | omega
 rintro _ whs11 ⟨rfl, hs11⟩
 replace hs11 := hs5.call0 hs11
 refine ⟨_, rfl, WL.r 1 hs11 [] rfl (WL.nil (WC.condF rfl (by simp [e_State, e_Mark]) (WC.skip (hK10 _ _ (WC.seq (fun K13 hK13 => WC.sr ?_))))))⟩
 refine WL.r 4 hs11 [1, 0] rfl (WL.cl Tryz.call26 rfl (k4_ _ _ _ _ _ _ _ _ _ (SlF.st0 f_a.Part hs11) (SlF.st0 f_b.Part hs11) ?_ ?_) ?_)
 iterate 2 first | assumption | rfl | omega
 rintro _ whs14 ⟨rfl, hs14⟩
 replace hs14 := hs11.call0 hs14
 refine ⟨_, rfl, WL.r 1 hs14 [] rfl (WL.nil (WC.condF rfl (by simp [e_State, e_Mark]) (WC.skip (hK13 _ _ (WC.r1 hs14 [] rfl (WC.ret ?_))))))⟩
 refine rtv rfl rfl hs14 ?_
 rfl
set_option maxHeartbeats 4000000 in
theorem k86_ (a : RowR) (b : RowR) (w : World) (f_a : okRowR 549755813888 w a) (f_b : okRowR 549755813888 w b) (hab : a.dat = b.dat) :
    Calls Tryz.prog 288 #[.agg #[.slice a.Cells.A a.Cells.n a.Cells.c], .agg #[.slice b.Cells.A b.Cells.n b.Cells.c]] w fun e w' => e = .returned (.bool true) ∧ St w [] [] w' := by
 have nb_a_Cells := f_a.Cells_n
 have nl_a_Cells := f_a.Cells.len
 have nb_b_Cells := f_b.Cells_n
 have nl_b_Cells := f_b.Cells.len
 have e_Cells : a.Cells.xs = b.Cells.xs := congrArg (fun d : RowD => d.Cells) hab
 refine enter 11 Tryz.func288 rfl Tryz.ntmps288 rfl rfl ?_
 have hs1 := St.init w
 refine WC.sr (WL.bx hs1 rfl (fun b2 _ hs3 => WL.bx hs3 rfl (fun b4 _ hs5 => WL.r 1 hs5 [] rfl (WL.nil (WC.seq (fun K6 hK6 => WC.sr (WL.r 4 hs5 [1, 0] rfl ?_)))))))
 refine WL.cl Tryz.call287 rfl (k10_ _ _ _ _ _ _ _ _ _ (SlF.st0 f_a.Cells hs5) (SlF.st0 f_b.Cells hs5) ?_ ?_) ?_
 iterate 2 first | assumption | rfl | omega
 rintro _ whs7 ⟨rfl, hs7⟩
 replace hs7 := hs5.call0 hs7
 refine ⟨_, rfl, WL.r 1 hs7 [] rfl (WL.nil (WC.condF rfl (by simp) (WC.skip (hK6 _ _ (WC.r1 hs7 [] rfl (WC.ret ?_))))))⟩
 refine rtv rfl rfl hs7 ?_
 rfl
theorem k87_ (A_a : Option Addr) (n_a c_a : Nat) (a : List RowR) (A_b : Option Addr) (n_b c_b : Nat) (b : List RowR) (w : World) (f_a : SlN encRowR (okRowR 549755813888) w A_a n_a a) (f_b : SlN encRowR (okRowR 549755813888) w A_b n_b b) (hn : n_a ≤ 549755813888) (hab : a.map RowR.dat = b.map RowR.dat) :
    Calls Tryz.prog 262 #[.slice A_a n_a c_a, .slice A_b n_b c_b] w fun e w' => e = .returned (.bool true) ∧ St w [] [] w' := by
 have hla := f_a.sl.len
 obtain rfl : n_a = n_b := by have h9 := congrArg List.length hab; simp only [List.length_map] at h9; rw [← hla, h9]; exact f_b.sl.len
 refine enter 27 Tryz.func262 rfl Tryz.ntmps262 rfl rfl ?_
 have hs1 := St.init w
 refine WC.r1 hs1 [] rfl (WC.seq (fun K2 hK2 => WC.r1 hs1 [] rfl (WC.condF rfl (by simp) (WC.skip (hK2 _ _ (WC.seq (fun K4 hK4 => WC.r1 hs1 [] rfl ?_)))))))
 refine WC.block (WC.lS [0, 1, 10] rfl hs1 (fun k_ f w' => ∃ (i : Nat), k_ = n_a - i ∧ (i ≤ n_a) ∧ Sub [(5, .int .i64 i)] f) ((fun (i : Nat) => n_a - i) (0)) ?_ ?_)
 ·refine ⟨0, rfl, ?_, ⟨rfl, trivial⟩⟩
  · exact Nat.zero_le _
 clear hs1
 rintro _ f w ⟨i, rfl, p0, hG⟩ hF hs5
 refine WC.sub _ (hG.app hF) ?_
 clear hG hF
 refine WC.seq (fun K6 hK6 => WC.r1 hs5 [] rfl ?_)
 refine WC.cD rfl (fun qh7 => ?_) (fun qh7 => ?_)
 ·have hab_ := gat_dat (F := encRowR) (i := i) hab (by omega)
  refine WC.skip (hK6 _ _ (WC.seq (fun K8 hK8 => WC.block (WC.sq1 hs5 (WQ.r 2 [] rfl ?_)))))
  refine WQ.val rfl rfl rfl (fun w_ hs_ => (Run.idxN Tryz.runUnderlying87 Tryz.sizeOf181 rfl rfl rfl ?_ ?_ ?_)) ?_
  · exact SlF.some_ (SlF.st0 f_a.sl (hs_ : St _ _ _ _))
  · omega
  · omega
  refine WQ.val rfl rfl rfl (fun w_ hs_ => (Run.loadA Tryz.isAgg181 Tryz.sizeOf181 rfl rfl (SlF.whole (SlF.st0 f_a.sl (hs_ : St _ _ _ _)) ?_))) ?_
  · omega
  refine WQ.r 2 [] rfl ?_
  refine WQ.val rfl rfl rfl (fun w_ hs_ => (Run.idxN Tryz.runUnderlying87 Tryz.sizeOf181 rfl rfl rfl ?_ ?_ ?_)) ?_
  · exact SlF.some_ (SlF.st0 f_b.sl (hs_ : St _ _ _ _))
  · omega
  · omega
  refine WQ.val rfl rfl rfl (fun w_ hs_ => (Run.loadA Tryz.isAgg181 Tryz.sizeOf181 rfl rfl (SlF.whole (SlF.st0 f_b.sl (hs_ : St _ _ _ _)) ?_))) ?_
  · omega
  refine WQ.call rfl rfl rfl (fun w_ hs_ => (Run.call Tryz.call288 rfl rfl rfl)) (fun w_ hs_ => (k86_ (gat encRowR a i) (gat encRowR b i) _ (okRowR.st0 (SlN.nth f_a (by omega)) (hs_ : St _ _ _ _)) (okRowR.st0 (SlN.nth f_b (by omega)) (hs_ : St _ _ _ _)) ?_).mono fun e_ w_ h_ => ⟨h_.1, (hs_ : St _ _ _ _).call0 h_.2⟩) ?_
  · first | assumption | rfl | omega
  refine WQ.r 1 [] rfl (WQ.nil (fun _ (hs9 : St _ _ _ _) => WC.condF rfl (by simp) (WC.skip (hK8 _ _ (WC.region (WL.r 3 hs9 [] rfl (WL.nil ?_)))))))
  refine tkN (⟨sbF rfl, hs9, _, ?_, i + 1, rfl, ?_, ⟨rfl, trivial⟩⟩)
  · omega
  · omega
 refine WC.exit (hK4 _ _ (WC.r1 hs5 [] rfl (WC.ret (rtv rfl rfl hs5 ?_))))
 rfl
set_option maxHeartbeats 4000000 in
theorem k88_ (a : ScrR) (b : ScrR) (w : World) (f_a : okScrR 549755813888 w a) (f_b : okScrR 549755813888 w b) (hab : a.dat = b.dat) :
    Calls Tryz.prog 212 #[.agg (cScr a).toArray, .agg (cScr b).toArray] w fun e w' => e = .returned (.bool true) ∧ St w [] [] w' := by
 have nb_a_Main_Cells := f_a.Main.Cells_n
 have nl_a_Main_Cells := f_a.Main.Cells.len
 have nb_a_Alt_Cells := f_a.Alt.Cells_n
 have nl_a_Alt_Cells := f_a.Alt.Cells.len
 have nb_a_Tabs := f_a.Tabs_n
 have nl_a_Tabs := f_a.Tabs.len
 have nb_a_Back := f_a.Back_n
 have nl_a_Back := f_a.Back.sl.len
 have nb_b_Main_Cells := f_b.Main.Cells_n
 have nl_b_Main_Cells := f_b.Main.Cells.len
 have nb_b_Alt_Cells := f_b.Alt.Cells_n
 have nl_b_Alt_Cells := f_b.Alt.Cells.len
 have nb_b_Tabs := f_b.Tabs_n
 have nl_b_Tabs := f_b.Tabs.len
 have nb_b_Back := f_b.Back_n
 have nl_b_Back := f_b.Back.sl.len
 have e_W : a.W = b.W := congrArg (fun d : ScrD => d.W) hab
 have e_H : a.H = b.H := congrArg (fun d : ScrD => d.H) hab
 have e_Main : a.Main.dat = b.Main.dat := congrArg (fun d : ScrD => d.Main) hab
 have e_Main_W : a.Main.W = b.Main.W := congrArg (fun d : ScrD => d.Main.W) hab
 have e_Main_H : a.Main.H = b.Main.H := congrArg (fun d : ScrD => d.Main.H) hab
 have e_Main_Cells : a.Main.Cells.xs = b.Main.Cells.xs := congrArg (fun d : ScrD => d.Main.Cells) hab
 have e_Alt : a.Alt.dat = b.Alt.dat := congrArg (fun d : ScrD => d.Alt) hab
 have e_Alt_W : a.Alt.W = b.Alt.W := congrArg (fun d : ScrD => d.Alt.W) hab
 have e_Alt_H : a.Alt.H = b.Alt.H := congrArg (fun d : ScrD => d.Alt.H) hab
 have e_Alt_Cells : a.Alt.Cells.xs = b.Alt.Cells.xs := congrArg (fun d : ScrD => d.Alt.Cells) hab
 have e_OnAlt : a.OnAlt = b.OnAlt := congrArg (fun d : ScrD => d.OnAlt) hab
 have e_X : a.X = b.X := congrArg (fun d : ScrD => d.X) hab
 have e_Y : a.Y = b.Y := congrArg (fun d : ScrD => d.Y) hab
 have e_Wrap : a.Wrap = b.Wrap := congrArg (fun d : ScrD => d.Wrap) hab
 have e_A : a.A = b.A := congrArg (fun d : ScrD => d.A) hab
 have e_A_Fg : a.A.Fg = b.A.Fg := congrArg (fun d : ScrD => d.A.Fg) hab
 have e_A_Bg : a.A.Bg = b.A.Bg := congrArg (fun d : ScrD => d.A.Bg) hab
 have e_A_Bold : a.A.Bold = b.A.Bold := congrArg (fun d : ScrD => d.A.Bold) hab
 have e_A_Under : a.A.Under = b.A.Under := congrArg (fun d : ScrD => d.A.Under) hab
 have e_A_Turn : a.A.Turn = b.A.Turn := congrArg (fun d : ScrD => d.A.Turn) hab
 have e_Top : a.Top = b.Top := congrArg (fun d : ScrD => d.Top) hab
 have e_Bot : a.Bot = b.Bot := congrArg (fun d : ScrD => d.Bot) hab
 have e_NoWrap : a.NoWrap = b.NoWrap := congrArg (fun d : ScrD => d.NoWrap) hab
 have e_Hide : a.Hide = b.Hide := congrArg (fun d : ScrD => d.Hide) hab
 have e_SaveX : a.SaveX = b.SaveX := congrArg (fun d : ScrD => d.SaveX) hab
 have e_SaveY : a.SaveY = b.SaveY := congrArg (fun d : ScrD => d.SaveY) hab
 have e_SaveA : a.SaveA = b.SaveA := congrArg (fun d : ScrD => d.SaveA) hab
 have e_SaveA_Fg : a.SaveA.Fg = b.SaveA.Fg := congrArg (fun d : ScrD => d.SaveA.Fg) hab
 have e_SaveA_Bg : a.SaveA.Bg = b.SaveA.Bg := congrArg (fun d : ScrD => d.SaveA.Bg) hab
 have e_SaveA_Bold : a.SaveA.Bold = b.SaveA.Bold := congrArg (fun d : ScrD => d.SaveA.Bold) hab
 have e_SaveA_Under : a.SaveA.Under = b.SaveA.Under := congrArg (fun d : ScrD => d.SaveA.Under) hab
 have e_SaveA_Turn : a.SaveA.Turn = b.SaveA.Turn := congrArg (fun d : ScrD => d.SaveA.Turn) hab
 have e_Tabs : a.Tabs.xs = b.Tabs.xs := congrArg (fun d : ScrD => d.Tabs) hab
 have e_Limit : a.Limit = b.Limit := congrArg (fun d : ScrD => d.Limit) hab
 have e_Back : a.Back.xs.map RowR.dat = b.Back.xs.map RowR.dat := congrArg (fun d : ScrD => d.Back) hab
 refine enter 106 Tryz.func212 rfl Tryz.ntmps212 rfl rfl ?_
 have hs1 := St.init w
 refine WC.sr (WL.bx hs1 rfl (fun b2 _ hs3 => WL.bx hs3 rfl (fun b4 _ hs5 => WL.r 1 hs5 [] rfl (WL.nil (WC.seq (fun K6 hK6 => WC.r1 hs5 [1, 0] rfl (WC.condF rfl (by simp [e_W, e_H, e_Main_W, e_Main_H, e_Alt_W, e_Alt_H, e_OnAlt, e_X, e_Y, e_Wrap, e_A_Fg, e_A_Bg, e_A_Bold, e_A_Under, e_A_Turn, e_Top, e_Bot, e_NoWrap, e_Hide, e_SaveX, e_SaveY, e_SaveA_Fg, e_SaveA_Bg, e_SaveA_Bold, e_SaveA_Under, e_SaveA_Turn, e_Limit]) ?_)))))))
 refine WC.skip (hK6 _ _ (WC.seq (fun K8 hK8 => WC.r1 hs5 [1, 0] rfl (WC.condF rfl (by simp [e_W, e_H, e_Main_W, e_Main_H, e_Alt_W, e_Alt_H, e_OnAlt, e_X, e_Y, e_Wrap, e_A_Fg, e_A_Bg, e_A_Bold, e_A_Under, e_A_Turn, e_Top, e_Bot, e_NoWrap, e_Hide, e_SaveX, e_SaveY, e_SaveA_Fg, e_SaveA_Bg, e_SaveA_Bold, e_SaveA_Under, e_SaveA_Turn, e_Limit]) (WC.skip (hK8 _ _ (WC.seq (fun K10 hK10 => ?_))))))))
 refine WC.sr (WL.r 4 hs5 [1, 0] rfl (WL.cl Tryz.call260 rfl (k84_ a.Main b.Main _ (okGridR.st0 f_a.Main hs5) (okGridR.st0 f_b.Main hs5) ?_) ?_))
 · first | assumption | rfl | omega
 rintro _ whs11 ⟨rfl, hs11⟩
 replace hs11 := hs5.call0 hs11
 refine ⟨_, rfl, WL.r 1 hs11 [] rfl (WL.nil (WC.condF rfl (by simp [e_W, e_H, e_Main_W, e_Main_H, e_Alt_W, e_Alt_H, e_OnAlt, e_X, e_Y, e_Wrap, e_A_Fg, e_A_Bg, e_A_Bold, e_A_Under, e_A_Turn, e_Top, e_Bot, e_NoWrap, e_Hide, e_SaveX, e_SaveY, e_SaveA_Fg, e_SaveA_Bg, e_SaveA_Bold, e_SaveA_Under, e_SaveA_Turn, e_Limit]) (WC.skip (hK10 _ _ (WC.seq (fun K13 hK13 => WC.sr ?_))))))⟩
 refine WL.r 4 hs11 [1, 0] rfl (WL.cl Tryz.call260 rfl (k84_ a.Alt b.Alt _ (okGridR.st0 f_a.Alt hs11) (okGridR.st0 f_b.Alt hs11) ?_) ?_)
 · first | assumption | rfl | omega
 rintro _ whs14 ⟨rfl, hs14⟩
 replace hs14 := hs11.call0 hs14
 refine ⟨_, rfl, WL.r 1 hs14 [] rfl (WL.nil (WC.condF rfl (by simp [e_W, e_H, e_Main_W, e_Main_H, e_Alt_W, e_Alt_H, e_OnAlt, e_X, e_Y, e_Wrap, e_A_Fg, e_A_Bg, e_A_Bold, e_A_Under, e_A_Turn, e_Top, e_Bot, e_NoWrap, e_Hide, e_SaveX, e_SaveY, e_SaveA_Fg, e_SaveA_Bg, e_SaveA_Bold, e_SaveA_Under, e_SaveA_Turn, e_Limit]) (WC.skip (hK13 _ _ (WC.seq (fun K16 hK16 => WC.r1 hs14 [1, 0] rfl ?_))))))⟩
 refine WC.condF rfl (by simp [e_W, e_H, e_Main_W, e_Main_H, e_Alt_W, e_Alt_H, e_OnAlt, e_X, e_Y, e_Wrap, e_A_Fg, e_A_Bg, e_A_Bold, e_A_Under, e_A_Turn, e_Top, e_Bot, e_NoWrap, e_Hide, e_SaveX, e_SaveY, e_SaveA_Fg, e_SaveA_Bg, e_SaveA_Bold, e_SaveA_Under, e_SaveA_Turn, e_Limit]) (WC.skip (hK16 _ _ (WC.seq (fun K18 hK18 => WC.r1 hs14 [1, 0] rfl (WC.condF rfl (by simp [e_W, e_H, e_Main_W, e_Main_H, e_Alt_W, e_Alt_H, e_OnAlt, e_X, e_Y, e_Wrap, e_A_Fg, e_A_Bg, e_A_Bold, e_A_Under, e_A_Turn, e_Top, e_Bot, e_NoWrap, e_Hide, e_SaveX, e_SaveY, e_SaveA_Fg, e_SaveA_Bg, e_SaveA_Bold, e_SaveA_Under, e_SaveA_Turn, e_Limit]) ?_)))))
 refine WC.skip (hK18 _ _ (WC.seq (fun K20 hK20 => WC.r1 hs14 [1, 0] rfl (WC.condF rfl (by simp [e_W, e_H, e_Main_W, e_Main_H, e_Alt_W, e_Alt_H, e_OnAlt, e_X, e_Y, e_Wrap, e_A_Fg, e_A_Bg, e_A_Bold, e_A_Under, e_A_Turn, e_Top, e_Bot, e_NoWrap, e_Hide, e_SaveX, e_SaveY, e_SaveA_Fg, e_SaveA_Bg, e_SaveA_Bold, e_SaveA_Under, e_SaveA_Turn, e_Limit]) (WC.skip (hK20 _ _ (WC.seq (fun K22 hK22 => ?_))))))))
 refine WC.r1 hs14 [1, 0] rfl (WC.condF rfl (by simp [e_W, e_H, e_Main_W, e_Main_H, e_Alt_W, e_Alt_H, e_OnAlt, e_X, e_Y, e_Wrap, e_A_Fg, e_A_Bg, e_A_Bold, e_A_Under, e_A_Turn, e_Top, e_Bot, e_NoWrap, e_Hide, e_SaveX, e_SaveY, e_SaveA_Fg, e_SaveA_Bg, e_SaveA_Bold, e_SaveA_Under, e_SaveA_Turn, e_Limit]) (WC.skip (hK22 _ _ (WC.seq (fun K24 hK24 => WC.sr (WL.r 4 hs14 [1, 0] rfl ?_))))))
 refine WL.cl Tryz.call261 rfl (k7_ _ _ _ _ _ _ _ _ _ _ _ ?_) ?_
 · first | assumption | rfl | omega
 rintro _ whs25 ⟨rfl, hs25⟩
 replace hs25 := hs14.call0 hs25
 refine ⟨_, rfl, WL.r 1 hs25 [] rfl (WL.nil (WC.condF rfl (by simp [e_W, e_H, e_Main_W, e_Main_H, e_Alt_W, e_Alt_H, e_OnAlt, e_X, e_Y, e_Wrap, e_A_Fg, e_A_Bg, e_A_Bold, e_A_Under, e_A_Turn, e_Top, e_Bot, e_NoWrap, e_Hide, e_SaveX, e_SaveY, e_SaveA_Fg, e_SaveA_Bg, e_SaveA_Bold, e_SaveA_Under, e_SaveA_Turn, e_Limit]) (WC.skip (hK24 _ _ (WC.seq (fun K27 hK27 => WC.r1 hs25 [1, 0] rfl ?_))))))⟩
 refine WC.condF rfl (by simp [e_W, e_H, e_Main_W, e_Main_H, e_Alt_W, e_Alt_H, e_OnAlt, e_X, e_Y, e_Wrap, e_A_Fg, e_A_Bg, e_A_Bold, e_A_Under, e_A_Turn, e_Top, e_Bot, e_NoWrap, e_Hide, e_SaveX, e_SaveY, e_SaveA_Fg, e_SaveA_Bg, e_SaveA_Bold, e_SaveA_Under, e_SaveA_Turn, e_Limit]) (WC.skip (hK27 _ _ (WC.seq (fun K29 hK29 => WC.r1 hs25 [1, 0] rfl (WC.condF rfl (by simp [e_W, e_H, e_Main_W, e_Main_H, e_Alt_W, e_Alt_H, e_OnAlt, e_X, e_Y, e_Wrap, e_A_Fg, e_A_Bg, e_A_Bold, e_A_Under, e_A_Turn, e_Top, e_Bot, e_NoWrap, e_Hide, e_SaveX, e_SaveY, e_SaveA_Fg, e_SaveA_Bg, e_SaveA_Bold, e_SaveA_Under, e_SaveA_Turn, e_Limit]) ?_)))))
 refine WC.skip (hK29 _ _ (WC.seq (fun K31 hK31 => WC.r1 hs25 [1, 0] rfl (WC.condF rfl (by simp [e_W, e_H, e_Main_W, e_Main_H, e_Alt_W, e_Alt_H, e_OnAlt, e_X, e_Y, e_Wrap, e_A_Fg, e_A_Bg, e_A_Bold, e_A_Under, e_A_Turn, e_Top, e_Bot, e_NoWrap, e_Hide, e_SaveX, e_SaveY, e_SaveA_Fg, e_SaveA_Bg, e_SaveA_Bold, e_SaveA_Under, e_SaveA_Turn, e_Limit]) (WC.skip (hK31 _ _ (WC.seq (fun K33 hK33 => ?_))))))))
 refine WC.r1 hs25 [1, 0] rfl (WC.condF rfl (by simp [e_W, e_H, e_Main_W, e_Main_H, e_Alt_W, e_Alt_H, e_OnAlt, e_X, e_Y, e_Wrap, e_A_Fg, e_A_Bg, e_A_Bold, e_A_Under, e_A_Turn, e_Top, e_Bot, e_NoWrap, e_Hide, e_SaveX, e_SaveY, e_SaveA_Fg, e_SaveA_Bg, e_SaveA_Bold, e_SaveA_Under, e_SaveA_Turn, e_Limit]) (WC.skip (hK33 _ _ (WC.seq (fun K35 hK35 => WC.r1 hs25 [1, 0] rfl (WC.condF rfl (by simp [e_W, e_H, e_Main_W, e_Main_H, e_Alt_W, e_Alt_H, e_OnAlt, e_X, e_Y, e_Wrap, e_A_Fg, e_A_Bg, e_A_Bold, e_A_Under, e_A_Turn, e_Top, e_Bot, e_NoWrap, e_Hide, e_SaveX, e_SaveY, e_SaveA_Fg, e_SaveA_Bg, e_SaveA_Bold, e_SaveA_Under, e_SaveA_Turn, e_Limit]) ?_))))))
 refine WC.skip (hK35 _ _ (WC.seq (fun K37 hK37 => WC.r1 hs25 [1, 0] rfl (WC.condF rfl (by simp [e_W, e_H, e_Main_W, e_Main_H, e_Alt_W, e_Alt_H, e_OnAlt, e_X, e_Y, e_Wrap, e_A_Fg, e_A_Bg, e_A_Bold, e_A_Under, e_A_Turn, e_Top, e_Bot, e_NoWrap, e_Hide, e_SaveX, e_SaveY, e_SaveA_Fg, e_SaveA_Bg, e_SaveA_Bold, e_SaveA_Under, e_SaveA_Turn, e_Limit]) (WC.skip (hK37 _ _ (WC.seq (fun K39 hK39 => ?_))))))))
 refine WC.sr (WL.r 4 hs25 [1, 0] rfl (WL.cl Tryz.call261 rfl (k7_ _ _ _ _ _ _ _ _ _ _ _ ?_) ?_))
 · first | assumption | rfl | omega
 rintro _ whs40 ⟨rfl, hs40⟩
 replace hs40 := hs25.call0 hs40
 refine ⟨_, rfl, WL.r 1 hs40 [] rfl (WL.nil (WC.condF rfl (by simp [e_W, e_H, e_Main_W, e_Main_H, e_Alt_W, e_Alt_H, e_OnAlt, e_X, e_Y, e_Wrap, e_A_Fg, e_A_Bg, e_A_Bold, e_A_Under, e_A_Turn, e_Top, e_Bot, e_NoWrap, e_Hide, e_SaveX, e_SaveY, e_SaveA_Fg, e_SaveA_Bg, e_SaveA_Bold, e_SaveA_Under, e_SaveA_Turn, e_Limit]) (WC.skip (hK39 _ _ (WC.seq (fun K42 hK42 => WC.sr ?_))))))⟩
 refine WL.r 4 hs40 [1, 0] rfl (WL.cl Tryz.call171 rfl (k12_ _ _ _ _ _ _ _ _ _ (SlF.st0 f_a.Tabs hs40) (SlF.st0 f_b.Tabs hs40) ?_ ?_) ?_)
 iterate 2 first | assumption | rfl | omega
 rintro _ whs43 ⟨rfl, hs43⟩
 replace hs43 := hs40.call0 hs43
 refine ⟨_, rfl, WL.r 1 hs43 [] rfl (WL.nil (WC.condF rfl (by simp [e_W, e_H, e_Main_W, e_Main_H, e_Alt_W, e_Alt_H, e_OnAlt, e_X, e_Y, e_Wrap, e_A_Fg, e_A_Bg, e_A_Bold, e_A_Under, e_A_Turn, e_Top, e_Bot, e_NoWrap, e_Hide, e_SaveX, e_SaveY, e_SaveA_Fg, e_SaveA_Bg, e_SaveA_Bold, e_SaveA_Under, e_SaveA_Turn, e_Limit]) (WC.skip (hK42 _ _ (WC.seq (fun K45 hK45 => WC.r1 hs43 [1, 0] rfl ?_))))))⟩
 refine WC.condF rfl (by simp [e_W, e_H, e_Main_W, e_Main_H, e_Alt_W, e_Alt_H, e_OnAlt, e_X, e_Y, e_Wrap, e_A_Fg, e_A_Bg, e_A_Bold, e_A_Under, e_A_Turn, e_Top, e_Bot, e_NoWrap, e_Hide, e_SaveX, e_SaveY, e_SaveA_Fg, e_SaveA_Bg, e_SaveA_Bold, e_SaveA_Under, e_SaveA_Turn, e_Limit]) (WC.skip (hK45 _ _ (WC.seq (fun K47 hK47 => WC.sr (WL.r 4 hs43 [1, 0] rfl ?_)))))
 refine WL.cl Tryz.call262 rfl (k87_ _ _ _ _ _ _ _ _ _ (SlN.st0 okRowR.st0 f_a.Back hs43) (SlN.st0 okRowR.st0 f_b.Back hs43) ?_ ?_) ?_
 iterate 2 first | assumption | rfl | omega
 rintro _ whs48 ⟨rfl, hs48⟩
 replace hs48 := hs43.call0 hs48
 refine ⟨_, rfl, WL.r 1 hs48 [] rfl (WL.nil (WC.condF rfl (by simp [e_W, e_H, e_Main_W, e_Main_H, e_Alt_W, e_Alt_H, e_OnAlt, e_X, e_Y, e_Wrap, e_A_Fg, e_A_Bg, e_A_Bold, e_A_Under, e_A_Turn, e_Top, e_Bot, e_NoWrap, e_Hide, e_SaveX, e_SaveY, e_SaveA_Fg, e_SaveA_Bg, e_SaveA_Bold, e_SaveA_Under, e_SaveA_Turn, e_Limit]) (WC.skip (hK47 _ _ (WC.r1 hs48 [] rfl (WC.ret ?_))))))⟩
 refine rtv rfl rfl hs48 ?_
 rfl
set_option maxHeartbeats 4000000 in
theorem k89_ (a : TermR) (b : TermR) (w : World) (f_a : okTermR 549755813888 w a) (f_b : okTermR 549755813888 w b) (hab : a.dat = b.dat) :
    Calls Tryz.prog 169 #[.agg #[i64 a.P.State, .bool a.P.Mark, .slice a.P.Args.A a.P.Args.n a.P.Args.c, .slice a.P.Part.A a.P.Part.n a.P.Part.c, i64 a.S.W, i64 a.S.H, i64 a.S.Main.W, i64 a.S.Main.H, .slice a.S.Main.Cells.A a.S.Main.Cells.n a.S.Main.Cells.c, i64 a.S.Alt.W, i64 a.S.Alt.H, .slice a.S.Alt.Cells.A a.S.Alt.Cells.n a.S.Alt.Cells.c, .bool a.S.OnAlt, i64 a.S.X, i64 a.S.Y, .bool a.S.Wrap, i64 a.S.A.Fg, i64 a.S.A.Bg, .bool a.S.A.Bold, .bool a.S.A.Under, .bool a.S.A.Turn, i64 a.S.Top, i64 a.S.Bot, .bool a.S.NoWrap, .bool a.S.Hide, i64 a.S.SaveX, i64 a.S.SaveY, i64 a.S.SaveA.Fg, i64 a.S.SaveA.Bg, .bool a.S.SaveA.Bold, .bool a.S.SaveA.Under, .bool a.S.SaveA.Turn, .slice a.S.Tabs.A a.S.Tabs.n a.S.Tabs.c, i64 a.S.Limit, .slice a.S.Back.A a.S.Back.n a.S.Back.c], .agg #[i64 b.P.State, .bool b.P.Mark, .slice b.P.Args.A b.P.Args.n b.P.Args.c, .slice b.P.Part.A b.P.Part.n b.P.Part.c, i64 b.S.W, i64 b.S.H, i64 b.S.Main.W, i64 b.S.Main.H, .slice b.S.Main.Cells.A b.S.Main.Cells.n b.S.Main.Cells.c, i64 b.S.Alt.W, i64 b.S.Alt.H, .slice b.S.Alt.Cells.A b.S.Alt.Cells.n b.S.Alt.Cells.c, .bool b.S.OnAlt, i64 b.S.X, i64 b.S.Y, .bool b.S.Wrap, i64 b.S.A.Fg, i64 b.S.A.Bg, .bool b.S.A.Bold, .bool b.S.A.Under, .bool b.S.A.Turn, i64 b.S.Top, i64 b.S.Bot, .bool b.S.NoWrap, .bool b.S.Hide, i64 b.S.SaveX, i64 b.S.SaveY, i64 b.S.SaveA.Fg, i64 b.S.SaveA.Bg, .bool b.S.SaveA.Bold, .bool b.S.SaveA.Under, .bool b.S.SaveA.Turn, .slice b.S.Tabs.A b.S.Tabs.n b.S.Tabs.c, i64 b.S.Limit, .slice b.S.Back.A b.S.Back.n b.S.Back.c]] w fun e w' => e = .returned (.bool true) ∧ St w [] [] w' := by
 have nb_a_P_Args := f_a.P.Args_n
 have nl_a_P_Args := f_a.P.Args.len
 have nb_a_P_Part := f_a.P.Part_n
 have nl_a_P_Part := f_a.P.Part.len
 have nb_a_S_Main_Cells := f_a.S.Main.Cells_n
 have nl_a_S_Main_Cells := f_a.S.Main.Cells.len
 have nb_a_S_Alt_Cells := f_a.S.Alt.Cells_n
 have nl_a_S_Alt_Cells := f_a.S.Alt.Cells.len
 have nb_a_S_Tabs := f_a.S.Tabs_n
 have nl_a_S_Tabs := f_a.S.Tabs.len
 have nb_a_S_Back := f_a.S.Back_n
 have nl_a_S_Back := f_a.S.Back.sl.len
 have nb_b_P_Args := f_b.P.Args_n
 have nl_b_P_Args := f_b.P.Args.len
 have nb_b_P_Part := f_b.P.Part_n
 have nl_b_P_Part := f_b.P.Part.len
 have nb_b_S_Main_Cells := f_b.S.Main.Cells_n
 have nl_b_S_Main_Cells := f_b.S.Main.Cells.len
 have nb_b_S_Alt_Cells := f_b.S.Alt.Cells_n
 have nl_b_S_Alt_Cells := f_b.S.Alt.Cells.len
 have nb_b_S_Tabs := f_b.S.Tabs_n
 have nl_b_S_Tabs := f_b.S.Tabs.len
 have nb_b_S_Back := f_b.S.Back_n
 have nl_b_S_Back := f_b.S.Back.sl.len
 have e_P : a.P.dat = b.P.dat := congrArg (fun d : TermD => d.P) hab
 have e_P_State : a.P.State = b.P.State := congrArg (fun d : TermD => d.P.State) hab
 have e_P_Mark : a.P.Mark = b.P.Mark := congrArg (fun d : TermD => d.P.Mark) hab
 have e_P_Args : a.P.Args.xs = b.P.Args.xs := congrArg (fun d : TermD => d.P.Args) hab
 have e_P_Part : a.P.Part.xs = b.P.Part.xs := congrArg (fun d : TermD => d.P.Part) hab
 have e_S : a.S.dat = b.S.dat := congrArg (fun d : TermD => d.S) hab
 have e_S_W : a.S.W = b.S.W := congrArg (fun d : TermD => d.S.W) hab
 have e_S_H : a.S.H = b.S.H := congrArg (fun d : TermD => d.S.H) hab
 have e_S_Main : a.S.Main.dat = b.S.Main.dat := congrArg (fun d : TermD => d.S.Main) hab
 have e_S_Main_W : a.S.Main.W = b.S.Main.W := congrArg (fun d : TermD => d.S.Main.W) hab
 have e_S_Main_H : a.S.Main.H = b.S.Main.H := congrArg (fun d : TermD => d.S.Main.H) hab
 have e_S_Main_Cells : a.S.Main.Cells.xs = b.S.Main.Cells.xs := congrArg (fun d : TermD => d.S.Main.Cells) hab
 have e_S_Alt : a.S.Alt.dat = b.S.Alt.dat := congrArg (fun d : TermD => d.S.Alt) hab
 have e_S_Alt_W : a.S.Alt.W = b.S.Alt.W := congrArg (fun d : TermD => d.S.Alt.W) hab
 have e_S_Alt_H : a.S.Alt.H = b.S.Alt.H := congrArg (fun d : TermD => d.S.Alt.H) hab
 have e_S_Alt_Cells : a.S.Alt.Cells.xs = b.S.Alt.Cells.xs := congrArg (fun d : TermD => d.S.Alt.Cells) hab
 have e_S_OnAlt : a.S.OnAlt = b.S.OnAlt := congrArg (fun d : TermD => d.S.OnAlt) hab
 have e_S_X : a.S.X = b.S.X := congrArg (fun d : TermD => d.S.X) hab
 have e_S_Y : a.S.Y = b.S.Y := congrArg (fun d : TermD => d.S.Y) hab
 have e_S_Wrap : a.S.Wrap = b.S.Wrap := congrArg (fun d : TermD => d.S.Wrap) hab
 have e_S_A : a.S.A = b.S.A := congrArg (fun d : TermD => d.S.A) hab
 have e_S_A_Fg : a.S.A.Fg = b.S.A.Fg := congrArg (fun d : TermD => d.S.A.Fg) hab
 have e_S_A_Bg : a.S.A.Bg = b.S.A.Bg := congrArg (fun d : TermD => d.S.A.Bg) hab
 have e_S_A_Bold : a.S.A.Bold = b.S.A.Bold := congrArg (fun d : TermD => d.S.A.Bold) hab
 have e_S_A_Under : a.S.A.Under = b.S.A.Under := congrArg (fun d : TermD => d.S.A.Under) hab
 have e_S_A_Turn : a.S.A.Turn = b.S.A.Turn := congrArg (fun d : TermD => d.S.A.Turn) hab
 have e_S_Top : a.S.Top = b.S.Top := congrArg (fun d : TermD => d.S.Top) hab
 have e_S_Bot : a.S.Bot = b.S.Bot := congrArg (fun d : TermD => d.S.Bot) hab
 have e_S_NoWrap : a.S.NoWrap = b.S.NoWrap := congrArg (fun d : TermD => d.S.NoWrap) hab
 have e_S_Hide : a.S.Hide = b.S.Hide := congrArg (fun d : TermD => d.S.Hide) hab
 have e_S_SaveX : a.S.SaveX = b.S.SaveX := congrArg (fun d : TermD => d.S.SaveX) hab
 have e_S_SaveY : a.S.SaveY = b.S.SaveY := congrArg (fun d : TermD => d.S.SaveY) hab
 have e_S_SaveA : a.S.SaveA = b.S.SaveA := congrArg (fun d : TermD => d.S.SaveA) hab
 have e_S_SaveA_Fg : a.S.SaveA.Fg = b.S.SaveA.Fg := congrArg (fun d : TermD => d.S.SaveA.Fg) hab
 have e_S_SaveA_Bg : a.S.SaveA.Bg = b.S.SaveA.Bg := congrArg (fun d : TermD => d.S.SaveA.Bg) hab
 have e_S_SaveA_Bold : a.S.SaveA.Bold = b.S.SaveA.Bold := congrArg (fun d : TermD => d.S.SaveA.Bold) hab
 have e_S_SaveA_Under : a.S.SaveA.Under = b.S.SaveA.Under := congrArg (fun d : TermD => d.S.SaveA.Under) hab
 have e_S_SaveA_Turn : a.S.SaveA.Turn = b.S.SaveA.Turn := congrArg (fun d : TermD => d.S.SaveA.Turn) hab
 have e_S_Tabs : a.S.Tabs.xs = b.S.Tabs.xs := congrArg (fun d : TermD => d.S.Tabs) hab
 have e_S_Limit : a.S.Limit = b.S.Limit := congrArg (fun d : TermD => d.S.Limit) hab
 have e_S_Back : a.S.Back.xs.map RowR.dat = b.S.Back.xs.map RowR.dat := congrArg (fun d : TermD => d.S.Back) hab
 refine enter 17 Tryz.func169 rfl Tryz.ntmps169 rfl rfl ?_
 have hs1 := St.init w
 refine WC.sr (WL.bx hs1 rfl (fun b2 _ hs3 => WL.bx hs3 rfl (fun b4 _ hs5 => WL.r 1 hs5 [] rfl (WL.nil (WC.seq (fun K6 hK6 => WC.sr (WL.r 4 hs5 [1, 0] rfl ?_)))))))
 refine WL.cl Tryz.call211 rfl (k85_ a.P b.P _ (okVpR.st0 f_a.P hs5) (okVpR.st0 f_b.P hs5) ?_) ?_
 · first | assumption | rfl | omega
 rintro _ whs7 ⟨rfl, hs7⟩
 replace hs7 := hs5.call0 hs7
 refine ⟨_, rfl, WL.r 1 hs7 [] rfl (WL.nil (WC.condF rfl (by simp [e_P_State, e_P_Mark, e_S_W, e_S_H, e_S_Main_W, e_S_Main_H, e_S_Alt_W, e_S_Alt_H, e_S_OnAlt, e_S_X, e_S_Y, e_S_Wrap, e_S_A_Fg, e_S_A_Bg, e_S_A_Bold, e_S_A_Under, e_S_A_Turn, e_S_Top, e_S_Bot, e_S_NoWrap, e_S_Hide, e_S_SaveX, e_S_SaveY, e_S_SaveA_Fg, e_S_SaveA_Bg, e_S_SaveA_Bold, e_S_SaveA_Under, e_S_SaveA_Turn, e_S_Limit]) (WC.skip (hK6 _ _ (WC.seq (fun K9 hK9 => WC.sr ?_))))))⟩
 refine WL.r 4 hs7 [1, 0] rfl (WL.cl Tryz.call212 rfl (k88_ a.S b.S _ (okScrR.st0 f_a.S hs7) (okScrR.st0 f_b.S hs7) ?_) ?_)
 · first | assumption | rfl | omega
 rintro _ whs10 ⟨rfl, hs10⟩
 replace hs10 := hs7.call0 hs10
 refine ⟨_, rfl, WL.r 1 hs10 [] rfl (WL.nil (WC.condF rfl (by simp [e_P_State, e_P_Mark, e_S_W, e_S_H, e_S_Main_W, e_S_Main_H, e_S_Alt_W, e_S_Alt_H, e_S_OnAlt, e_S_X, e_S_Y, e_S_Wrap, e_S_A_Fg, e_S_A_Bg, e_S_A_Bold, e_S_A_Under, e_S_A_Turn, e_S_Top, e_S_Bot, e_S_NoWrap, e_S_Hide, e_S_SaveX, e_S_SaveY, e_S_SaveA_Fg, e_S_SaveA_Bg, e_S_SaveA_Bold, e_S_SaveA_Under, e_S_SaveA_Turn, e_S_Limit]) (WC.skip (hK9 _ _ (WC.r1 hs10 [] rfl (WC.ret ?_))))))⟩
 refine rtv rfl rfl hs10 ?_
 rfl
set_option maxHeartbeats 4000000 in
theorem k90_ (a : PaneR) (b : PaneR) (w : World) (f_a : okPaneR 549755813888 w a) (f_b : okPaneR 549755813888 w b) (hab : a.dat = b.dat) :
    Calls Tryz.prog 108 #[.agg #[i64 a.Id, .string a.Cmd, .string a.Dir, i64 a.Life, i64 a.Code, i64 a.Pid, i64 a.Term.P.State, .bool a.Term.P.Mark, .slice a.Term.P.Args.A a.Term.P.Args.n a.Term.P.Args.c, .slice a.Term.P.Part.A a.Term.P.Part.n a.Term.P.Part.c, i64 a.Term.S.W, i64 a.Term.S.H, i64 a.Term.S.Main.W, i64 a.Term.S.Main.H, .slice a.Term.S.Main.Cells.A a.Term.S.Main.Cells.n a.Term.S.Main.Cells.c, i64 a.Term.S.Alt.W, i64 a.Term.S.Alt.H, .slice a.Term.S.Alt.Cells.A a.Term.S.Alt.Cells.n a.Term.S.Alt.Cells.c, .bool a.Term.S.OnAlt, i64 a.Term.S.X, i64 a.Term.S.Y, .bool a.Term.S.Wrap, i64 a.Term.S.A.Fg, i64 a.Term.S.A.Bg, .bool a.Term.S.A.Bold, .bool a.Term.S.A.Under, .bool a.Term.S.A.Turn, i64 a.Term.S.Top, i64 a.Term.S.Bot, .bool a.Term.S.NoWrap, .bool a.Term.S.Hide, i64 a.Term.S.SaveX, i64 a.Term.S.SaveY, i64 a.Term.S.SaveA.Fg, i64 a.Term.S.SaveA.Bg, .bool a.Term.S.SaveA.Bold, .bool a.Term.S.SaveA.Under, .bool a.Term.S.SaveA.Turn, .slice a.Term.S.Tabs.A a.Term.S.Tabs.n a.Term.S.Tabs.c, i64 a.Term.S.Limit, .slice a.Term.S.Back.A a.Term.S.Back.n a.Term.S.Back.c], .agg #[i64 b.Id, .string b.Cmd, .string b.Dir, i64 b.Life, i64 b.Code, i64 b.Pid, i64 b.Term.P.State, .bool b.Term.P.Mark, .slice b.Term.P.Args.A b.Term.P.Args.n b.Term.P.Args.c, .slice b.Term.P.Part.A b.Term.P.Part.n b.Term.P.Part.c, i64 b.Term.S.W, i64 b.Term.S.H, i64 b.Term.S.Main.W, i64 b.Term.S.Main.H, .slice b.Term.S.Main.Cells.A b.Term.S.Main.Cells.n b.Term.S.Main.Cells.c, i64 b.Term.S.Alt.W, i64 b.Term.S.Alt.H, .slice b.Term.S.Alt.Cells.A b.Term.S.Alt.Cells.n b.Term.S.Alt.Cells.c, .bool b.Term.S.OnAlt, i64 b.Term.S.X, i64 b.Term.S.Y, .bool b.Term.S.Wrap, i64 b.Term.S.A.Fg, i64 b.Term.S.A.Bg, .bool b.Term.S.A.Bold, .bool b.Term.S.A.Under, .bool b.Term.S.A.Turn, i64 b.Term.S.Top, i64 b.Term.S.Bot, .bool b.Term.S.NoWrap, .bool b.Term.S.Hide, i64 b.Term.S.SaveX, i64 b.Term.S.SaveY, i64 b.Term.S.SaveA.Fg, i64 b.Term.S.SaveA.Bg, .bool b.Term.S.SaveA.Bold, .bool b.Term.S.SaveA.Under, .bool b.Term.S.SaveA.Turn, .slice b.Term.S.Tabs.A b.Term.S.Tabs.n b.Term.S.Tabs.c, i64 b.Term.S.Limit, .slice b.Term.S.Back.A b.Term.S.Back.n b.Term.S.Back.c]] w fun e w' => e = .returned (.bool true) ∧ St w [] [] w' := by
 have nz_a_Cmd := f_a.Cmd_z
 have nz_a_Dir := f_a.Dir_z
 have nb_a_Term_P_Args := f_a.Term.P.Args_n
 have nl_a_Term_P_Args := f_a.Term.P.Args.len
 have nb_a_Term_P_Part := f_a.Term.P.Part_n
 have nl_a_Term_P_Part := f_a.Term.P.Part.len
 have nb_a_Term_S_Main_Cells := f_a.Term.S.Main.Cells_n
 have nl_a_Term_S_Main_Cells := f_a.Term.S.Main.Cells.len
 have nb_a_Term_S_Alt_Cells := f_a.Term.S.Alt.Cells_n
 have nl_a_Term_S_Alt_Cells := f_a.Term.S.Alt.Cells.len
 have nb_a_Term_S_Tabs := f_a.Term.S.Tabs_n
 have nl_a_Term_S_Tabs := f_a.Term.S.Tabs.len
 have nb_a_Term_S_Back := f_a.Term.S.Back_n
 have nl_a_Term_S_Back := f_a.Term.S.Back.sl.len
 have nz_b_Cmd := f_b.Cmd_z
 have nz_b_Dir := f_b.Dir_z
 have nb_b_Term_P_Args := f_b.Term.P.Args_n
 have nl_b_Term_P_Args := f_b.Term.P.Args.len
 have nb_b_Term_P_Part := f_b.Term.P.Part_n
 have nl_b_Term_P_Part := f_b.Term.P.Part.len
 have nb_b_Term_S_Main_Cells := f_b.Term.S.Main.Cells_n
 have nl_b_Term_S_Main_Cells := f_b.Term.S.Main.Cells.len
 have nb_b_Term_S_Alt_Cells := f_b.Term.S.Alt.Cells_n
 have nl_b_Term_S_Alt_Cells := f_b.Term.S.Alt.Cells.len
 have nb_b_Term_S_Tabs := f_b.Term.S.Tabs_n
 have nl_b_Term_S_Tabs := f_b.Term.S.Tabs.len
 have nb_b_Term_S_Back := f_b.Term.S.Back_n
 have nl_b_Term_S_Back := f_b.Term.S.Back.sl.len
 have e_Id : a.Id = b.Id := congrArg (fun d : PaneD => d.Id) hab
 have e_Cmd : a.Cmd = b.Cmd := congrArg (fun d : PaneD => d.Cmd) hab
 have e_Dir : a.Dir = b.Dir := congrArg (fun d : PaneD => d.Dir) hab
 have e_Life : a.Life = b.Life := congrArg (fun d : PaneD => d.Life) hab
 have e_Code : a.Code = b.Code := congrArg (fun d : PaneD => d.Code) hab
 have e_Pid : a.Pid = b.Pid := congrArg (fun d : PaneD => d.Pid) hab
 have e_Term : a.Term.dat = b.Term.dat := congrArg (fun d : PaneD => d.Term) hab
 have e_Term_P : a.Term.P.dat = b.Term.P.dat := congrArg (fun d : PaneD => d.Term.P) hab
 have e_Term_P_State : a.Term.P.State = b.Term.P.State := congrArg (fun d : PaneD => d.Term.P.State) hab
 have e_Term_P_Mark : a.Term.P.Mark = b.Term.P.Mark := congrArg (fun d : PaneD => d.Term.P.Mark) hab
 have e_Term_P_Args : a.Term.P.Args.xs = b.Term.P.Args.xs := congrArg (fun d : PaneD => d.Term.P.Args) hab
 have e_Term_P_Part : a.Term.P.Part.xs = b.Term.P.Part.xs := congrArg (fun d : PaneD => d.Term.P.Part) hab
 have e_Term_S : a.Term.S.dat = b.Term.S.dat := congrArg (fun d : PaneD => d.Term.S) hab
 have e_Term_S_W : a.Term.S.W = b.Term.S.W := congrArg (fun d : PaneD => d.Term.S.W) hab
 have e_Term_S_H : a.Term.S.H = b.Term.S.H := congrArg (fun d : PaneD => d.Term.S.H) hab
 have e_Term_S_Main : a.Term.S.Main.dat = b.Term.S.Main.dat := congrArg (fun d : PaneD => d.Term.S.Main) hab
 have e_Term_S_Main_W : a.Term.S.Main.W = b.Term.S.Main.W := congrArg (fun d : PaneD => d.Term.S.Main.W) hab
 have e_Term_S_Main_H : a.Term.S.Main.H = b.Term.S.Main.H := congrArg (fun d : PaneD => d.Term.S.Main.H) hab
 have e_Term_S_Main_Cells : a.Term.S.Main.Cells.xs = b.Term.S.Main.Cells.xs := congrArg (fun d : PaneD => d.Term.S.Main.Cells) hab
 have e_Term_S_Alt : a.Term.S.Alt.dat = b.Term.S.Alt.dat := congrArg (fun d : PaneD => d.Term.S.Alt) hab
 have e_Term_S_Alt_W : a.Term.S.Alt.W = b.Term.S.Alt.W := congrArg (fun d : PaneD => d.Term.S.Alt.W) hab
 have e_Term_S_Alt_H : a.Term.S.Alt.H = b.Term.S.Alt.H := congrArg (fun d : PaneD => d.Term.S.Alt.H) hab
 have e_Term_S_Alt_Cells : a.Term.S.Alt.Cells.xs = b.Term.S.Alt.Cells.xs := congrArg (fun d : PaneD => d.Term.S.Alt.Cells) hab
 have e_Term_S_OnAlt : a.Term.S.OnAlt = b.Term.S.OnAlt := congrArg (fun d : PaneD => d.Term.S.OnAlt) hab
 have e_Term_S_X : a.Term.S.X = b.Term.S.X := congrArg (fun d : PaneD => d.Term.S.X) hab
 have e_Term_S_Y : a.Term.S.Y = b.Term.S.Y := congrArg (fun d : PaneD => d.Term.S.Y) hab
 have e_Term_S_Wrap : a.Term.S.Wrap = b.Term.S.Wrap := congrArg (fun d : PaneD => d.Term.S.Wrap) hab
 have e_Term_S_A : a.Term.S.A = b.Term.S.A := congrArg (fun d : PaneD => d.Term.S.A) hab
 have e_Term_S_A_Fg : a.Term.S.A.Fg = b.Term.S.A.Fg := congrArg (fun d : PaneD => d.Term.S.A.Fg) hab
 have e_Term_S_A_Bg : a.Term.S.A.Bg = b.Term.S.A.Bg := congrArg (fun d : PaneD => d.Term.S.A.Bg) hab
 have e_Term_S_A_Bold : a.Term.S.A.Bold = b.Term.S.A.Bold := congrArg (fun d : PaneD => d.Term.S.A.Bold) hab
 have e_Term_S_A_Under : a.Term.S.A.Under = b.Term.S.A.Under := congrArg (fun d : PaneD => d.Term.S.A.Under) hab
 have e_Term_S_A_Turn : a.Term.S.A.Turn = b.Term.S.A.Turn := congrArg (fun d : PaneD => d.Term.S.A.Turn) hab
 have e_Term_S_Top : a.Term.S.Top = b.Term.S.Top := congrArg (fun d : PaneD => d.Term.S.Top) hab
 have e_Term_S_Bot : a.Term.S.Bot = b.Term.S.Bot := congrArg (fun d : PaneD => d.Term.S.Bot) hab
 have e_Term_S_NoWrap : a.Term.S.NoWrap = b.Term.S.NoWrap := congrArg (fun d : PaneD => d.Term.S.NoWrap) hab
 have e_Term_S_Hide : a.Term.S.Hide = b.Term.S.Hide := congrArg (fun d : PaneD => d.Term.S.Hide) hab
 have e_Term_S_SaveX : a.Term.S.SaveX = b.Term.S.SaveX := congrArg (fun d : PaneD => d.Term.S.SaveX) hab
 have e_Term_S_SaveY : a.Term.S.SaveY = b.Term.S.SaveY := congrArg (fun d : PaneD => d.Term.S.SaveY) hab
 have e_Term_S_SaveA : a.Term.S.SaveA = b.Term.S.SaveA := congrArg (fun d : PaneD => d.Term.S.SaveA) hab
 have e_Term_S_SaveA_Fg : a.Term.S.SaveA.Fg = b.Term.S.SaveA.Fg := congrArg (fun d : PaneD => d.Term.S.SaveA.Fg) hab
 have e_Term_S_SaveA_Bg : a.Term.S.SaveA.Bg = b.Term.S.SaveA.Bg := congrArg (fun d : PaneD => d.Term.S.SaveA.Bg) hab
 have e_Term_S_SaveA_Bold : a.Term.S.SaveA.Bold = b.Term.S.SaveA.Bold := congrArg (fun d : PaneD => d.Term.S.SaveA.Bold) hab
 have e_Term_S_SaveA_Under : a.Term.S.SaveA.Under = b.Term.S.SaveA.Under := congrArg (fun d : PaneD => d.Term.S.SaveA.Under) hab
 have e_Term_S_SaveA_Turn : a.Term.S.SaveA.Turn = b.Term.S.SaveA.Turn := congrArg (fun d : PaneD => d.Term.S.SaveA.Turn) hab
 have e_Term_S_Tabs : a.Term.S.Tabs.xs = b.Term.S.Tabs.xs := congrArg (fun d : PaneD => d.Term.S.Tabs) hab
 have e_Term_S_Limit : a.Term.S.Limit = b.Term.S.Limit := congrArg (fun d : PaneD => d.Term.S.Limit) hab
 have e_Term_S_Back : a.Term.S.Back.xs.map RowR.dat = b.Term.S.Back.xs.map RowR.dat := congrArg (fun d : PaneD => d.Term.S.Back) hab
 refine enter 41 Tryz.func108 rfl Tryz.ntmps108 rfl rfl ?_
 have hs1 := St.init w
 refine WC.sr (WL.bx hs1 rfl (fun b2 _ hs3 => WL.bx hs3 rfl (fun b4 _ hs5 => WL.r 1 hs5 [] rfl (WL.nil (WC.seq (fun K6 hK6 => WC.r1 hs5 [1, 0] rfl (WC.condF rfl (by simp [e_Id, e_Cmd, e_Dir, e_Life, e_Code, e_Pid, e_Term_P_State, e_Term_P_Mark, e_Term_S_W, e_Term_S_H, e_Term_S_Main_W, e_Term_S_Main_H, e_Term_S_Alt_W, e_Term_S_Alt_H, e_Term_S_OnAlt, e_Term_S_X, e_Term_S_Y, e_Term_S_Wrap, e_Term_S_A_Fg, e_Term_S_A_Bg, e_Term_S_A_Bold, e_Term_S_A_Under, e_Term_S_A_Turn, e_Term_S_Top, e_Term_S_Bot, e_Term_S_NoWrap, e_Term_S_Hide, e_Term_S_SaveX, e_Term_S_SaveY, e_Term_S_SaveA_Fg, e_Term_S_SaveA_Bg, e_Term_S_SaveA_Bold, e_Term_S_SaveA_Under, e_Term_S_SaveA_Turn, e_Term_S_Limit]) ?_)))))))
 refine WC.skip (hK6 _ _ (WC.seq (fun K8 hK8 => WC.r1 hs5 [1, 0] rfl (WC.condF rfl (by simp [e_Id, e_Cmd, e_Dir, e_Life, e_Code, e_Pid, e_Term_P_State, e_Term_P_Mark, e_Term_S_W, e_Term_S_H, e_Term_S_Main_W, e_Term_S_Main_H, e_Term_S_Alt_W, e_Term_S_Alt_H, e_Term_S_OnAlt, e_Term_S_X, e_Term_S_Y, e_Term_S_Wrap, e_Term_S_A_Fg, e_Term_S_A_Bg, e_Term_S_A_Bold, e_Term_S_A_Under, e_Term_S_A_Turn, e_Term_S_Top, e_Term_S_Bot, e_Term_S_NoWrap, e_Term_S_Hide, e_Term_S_SaveX, e_Term_S_SaveY, e_Term_S_SaveA_Fg, e_Term_S_SaveA_Bg, e_Term_S_SaveA_Bold, e_Term_S_SaveA_Under, e_Term_S_SaveA_Turn, e_Term_S_Limit]) ?_))))
 refine WC.skip (hK8 _ _ (WC.seq (fun K10 hK10 => WC.r1 hs5 [1, 0] rfl (WC.condF rfl (by simp [e_Id, e_Cmd, e_Dir, e_Life, e_Code, e_Pid, e_Term_P_State, e_Term_P_Mark, e_Term_S_W, e_Term_S_H, e_Term_S_Main_W, e_Term_S_Main_H, e_Term_S_Alt_W, e_Term_S_Alt_H, e_Term_S_OnAlt, e_Term_S_X, e_Term_S_Y, e_Term_S_Wrap, e_Term_S_A_Fg, e_Term_S_A_Bg, e_Term_S_A_Bold, e_Term_S_A_Under, e_Term_S_A_Turn, e_Term_S_Top, e_Term_S_Bot, e_Term_S_NoWrap, e_Term_S_Hide, e_Term_S_SaveX, e_Term_S_SaveY, e_Term_S_SaveA_Fg, e_Term_S_SaveA_Bg, e_Term_S_SaveA_Bold, e_Term_S_SaveA_Under, e_Term_S_SaveA_Turn, e_Term_S_Limit]) ?_))))
 refine WC.skip (hK10 _ _ (WC.seq (fun K12 hK12 => WC.r1 hs5 [1, 0] rfl (WC.condF rfl (by simp [e_Id, e_Cmd, e_Dir, e_Life, e_Code, e_Pid, e_Term_P_State, e_Term_P_Mark, e_Term_S_W, e_Term_S_H, e_Term_S_Main_W, e_Term_S_Main_H, e_Term_S_Alt_W, e_Term_S_Alt_H, e_Term_S_OnAlt, e_Term_S_X, e_Term_S_Y, e_Term_S_Wrap, e_Term_S_A_Fg, e_Term_S_A_Bg, e_Term_S_A_Bold, e_Term_S_A_Under, e_Term_S_A_Turn, e_Term_S_Top, e_Term_S_Bot, e_Term_S_NoWrap, e_Term_S_Hide, e_Term_S_SaveX, e_Term_S_SaveY, e_Term_S_SaveA_Fg, e_Term_S_SaveA_Bg, e_Term_S_SaveA_Bold, e_Term_S_SaveA_Under, e_Term_S_SaveA_Turn, e_Term_S_Limit]) ?_))))
 refine WC.skip (hK12 _ _ (WC.seq (fun K14 hK14 => WC.r1 hs5 [1, 0] rfl (WC.condF rfl (by simp [e_Id, e_Cmd, e_Dir, e_Life, e_Code, e_Pid, e_Term_P_State, e_Term_P_Mark, e_Term_S_W, e_Term_S_H, e_Term_S_Main_W, e_Term_S_Main_H, e_Term_S_Alt_W, e_Term_S_Alt_H, e_Term_S_OnAlt, e_Term_S_X, e_Term_S_Y, e_Term_S_Wrap, e_Term_S_A_Fg, e_Term_S_A_Bg, e_Term_S_A_Bold, e_Term_S_A_Under, e_Term_S_A_Turn, e_Term_S_Top, e_Term_S_Bot, e_Term_S_NoWrap, e_Term_S_Hide, e_Term_S_SaveX, e_Term_S_SaveY, e_Term_S_SaveA_Fg, e_Term_S_SaveA_Bg, e_Term_S_SaveA_Bold, e_Term_S_SaveA_Under, e_Term_S_SaveA_Turn, e_Term_S_Limit]) ?_))))
 refine WC.skip (hK14 _ _ (WC.seq (fun K16 hK16 => WC.r1 hs5 [1, 0] rfl (WC.condF rfl (by simp [e_Id, e_Cmd, e_Dir, e_Life, e_Code, e_Pid, e_Term_P_State, e_Term_P_Mark, e_Term_S_W, e_Term_S_H, e_Term_S_Main_W, e_Term_S_Main_H, e_Term_S_Alt_W, e_Term_S_Alt_H, e_Term_S_OnAlt, e_Term_S_X, e_Term_S_Y, e_Term_S_Wrap, e_Term_S_A_Fg, e_Term_S_A_Bg, e_Term_S_A_Bold, e_Term_S_A_Under, e_Term_S_A_Turn, e_Term_S_Top, e_Term_S_Bot, e_Term_S_NoWrap, e_Term_S_Hide, e_Term_S_SaveX, e_Term_S_SaveY, e_Term_S_SaveA_Fg, e_Term_S_SaveA_Bg, e_Term_S_SaveA_Bold, e_Term_S_SaveA_Under, e_Term_S_SaveA_Turn, e_Term_S_Limit]) ?_))))
 refine WC.skip (hK16 _ _ (WC.seq (fun K18 hK18 => WC.sr (WL.r 4 hs5 [1, 0] rfl ?_))))
 refine WL.cl Tryz.call169 rfl (k89_ a.Term b.Term _ (okTermR.st0 f_a.Term hs5) (okTermR.st0 f_b.Term hs5) ?_) ?_
 · first | assumption | rfl | omega
 rintro _ whs19 ⟨rfl, hs19⟩
 replace hs19 := hs5.call0 hs19
 refine ⟨_, rfl, WL.r 1 hs19 [] rfl (WL.nil (WC.condF rfl (by simp [e_Id, e_Cmd, e_Dir, e_Life, e_Code, e_Pid, e_Term_P_State, e_Term_P_Mark, e_Term_S_W, e_Term_S_H, e_Term_S_Main_W, e_Term_S_Main_H, e_Term_S_Alt_W, e_Term_S_Alt_H, e_Term_S_OnAlt, e_Term_S_X, e_Term_S_Y, e_Term_S_Wrap, e_Term_S_A_Fg, e_Term_S_A_Bg, e_Term_S_A_Bold, e_Term_S_A_Under, e_Term_S_A_Turn, e_Term_S_Top, e_Term_S_Bot, e_Term_S_NoWrap, e_Term_S_Hide, e_Term_S_SaveX, e_Term_S_SaveY, e_Term_S_SaveA_Fg, e_Term_S_SaveA_Bg, e_Term_S_SaveA_Bold, e_Term_S_SaveA_Under, e_Term_S_SaveA_Turn, e_Term_S_Limit]) (WC.skip (hK18 _ _ ?_))))⟩
 refine WC.r1 hs19 [] rfl (WC.ret (rtv rfl rfl hs19 ?_))
 rfl
set_option maxHeartbeats 4000000 in
theorem k91_ (a : WinR) (b : WinR) (w : World) (f_a : okWinR 549755813888 w a) (f_b : okWinR 549755813888 w b) (hab : a.dat = b.dat) :
    Calls Tryz.prog 109 #[.agg #[i64 a.Id, .string a.Name, .slice a.Tree.A a.Tree.n a.Tree.c, i64 a.Active, .bool a.Zoom], .agg #[i64 b.Id, .string b.Name, .slice b.Tree.A b.Tree.n b.Tree.c, i64 b.Active, .bool b.Zoom]] w fun e w' => e = .returned (.bool true) ∧ St w [] [] w' := by
 have nz_a_Name := f_a.Name_z
 have nb_a_Tree := f_a.Tree_n
 have nl_a_Tree := f_a.Tree.len
 have nz_b_Name := f_b.Name_z
 have nb_b_Tree := f_b.Tree_n
 have nl_b_Tree := f_b.Tree.len
 have e_Id : a.Id = b.Id := congrArg (fun d : WinD => d.Id) hab
 have e_Name : a.Name = b.Name := congrArg (fun d : WinD => d.Name) hab
 have e_Tree : a.Tree.xs = b.Tree.xs := congrArg (fun d : WinD => d.Tree) hab
 have e_Active : a.Active = b.Active := congrArg (fun d : WinD => d.Active) hab
 have e_Zoom : a.Zoom = b.Zoom := congrArg (fun d : WinD => d.Zoom) hab
 refine enter 31 Tryz.func109 rfl Tryz.ntmps109 rfl rfl ?_
 have hs1 := St.init w
 refine WC.sr (WL.bx hs1 rfl (fun b2 _ hs3 => WL.bx hs3 rfl (fun b4 _ hs5 => WL.r 1 hs5 [] rfl (WL.nil (WC.seq (fun K6 hK6 => WC.r1 hs5 [1, 0] rfl (WC.condF rfl (by simp [e_Id, e_Name, e_Active, e_Zoom]) ?_)))))))
 refine WC.skip (hK6 _ _ (WC.seq (fun K8 hK8 => WC.r1 hs5 [1, 0] rfl (WC.condF rfl (by simp [e_Id, e_Name, e_Active, e_Zoom]) (WC.skip (hK8 _ _ (WC.seq (fun K10 hK10 => ?_))))))))
 refine WC.sr (WL.r 4 hs5 [1, 0] rfl (WL.cl Tryz.call170 rfl (k19_ _ _ _ _ _ _ _ _ _ (SlF.st0 f_a.Tree hs5) (SlF.st0 f_b.Tree hs5) ?_ ?_) ?_))
 iterate 2 first | assumption | rfl | omega
 rintro _ whs11 ⟨rfl, hs11⟩
 replace hs11 := hs5.call0 hs11
 refine ⟨_, rfl, WL.r 1 hs11 [] rfl (WL.nil (WC.condF rfl (by simp [e_Id, e_Name, e_Active, e_Zoom]) (WC.skip (hK10 _ _ (WC.seq (fun K13 hK13 => WC.r1 hs11 [1, 0] rfl ?_))))))⟩
 refine WC.condF rfl (by simp [e_Id, e_Name, e_Active, e_Zoom]) (WC.skip (hK13 _ _ (WC.seq (fun K15 hK15 => WC.r1 hs11 [1, 0] rfl (WC.condF rfl (by simp [e_Id, e_Name, e_Active, e_Zoom]) (WC.skip (hK15 _ _ ?_)))))))
 refine WC.r1 hs11 [] rfl (WC.ret (rtv rfl rfl hs11 ?_))
 rfl
set_option maxHeartbeats 4000000 in
theorem k92_ (a : SessR) (b : SessR) (w : World) (f_a : okSessR 549755813888 w a) (f_b : okSessR 549755813888 w b) (hab : a.dat = b.dat) :
    Calls Tryz.prog 110 #[.agg #[.string a.Name, .slice a.Wins.A a.Wins.n a.Wins.c, i64 a.Active], .agg #[.string b.Name, .slice b.Wins.A b.Wins.n b.Wins.c, i64 b.Active]] w fun e w' => e = .returned (.bool true) ∧ St w [] [] w' := by
 have nz_a_Name := f_a.Name_z
 have nb_a_Wins := f_a.Wins_n
 have nl_a_Wins := f_a.Wins.len
 have nz_b_Name := f_b.Name_z
 have nb_b_Wins := f_b.Wins_n
 have nl_b_Wins := f_b.Wins.len
 have e_Name : a.Name = b.Name := congrArg (fun d : SessD => d.Name) hab
 have e_Wins : a.Wins.xs = b.Wins.xs := congrArg (fun d : SessD => d.Wins) hab
 have e_Active : a.Active = b.Active := congrArg (fun d : SessD => d.Active) hab
 refine enter 21 Tryz.func110 rfl Tryz.ntmps110 rfl rfl ?_
 have hs1 := St.init w
 refine WC.sr (WL.bx hs1 rfl (fun b2 _ hs3 => WL.bx hs3 rfl (fun b4 _ hs5 => WL.r 1 hs5 [] rfl (WL.nil (WC.seq (fun K6 hK6 => WC.r1 hs5 [1, 0] rfl (WC.condF rfl (by simp [e_Name, e_Active]) ?_)))))))
 refine WC.skip (hK6 _ _ (WC.seq (fun K8 hK8 => WC.sr (WL.r 4 hs5 [1, 0] rfl ?_))))
 refine WL.cl Tryz.call171 rfl (k12_ _ _ _ _ _ _ _ _ _ (SlF.st0 f_a.Wins hs5) (SlF.st0 f_b.Wins hs5) ?_ ?_) ?_
 iterate 2 first | assumption | rfl | omega
 rintro _ whs9 ⟨rfl, hs9⟩
 replace hs9 := hs5.call0 hs9
 refine ⟨_, rfl, WL.r 1 hs9 [] rfl (WL.nil (WC.condF rfl (by simp [e_Name, e_Active]) (WC.skip (hK8 _ _ (WC.seq (fun K11 hK11 => WC.r1 hs9 [1, 0] rfl ?_))))))⟩
 refine WC.condF rfl (by simp [e_Name, e_Active]) (WC.skip (hK11 _ _ (WC.r1 hs9 [] rfl (WC.ret (rtv rfl rfl hs9 ?_)))))
 rfl
theorem k93_ (A_a : Option Addr) (n_a c_a : Nat) (a : List PaneR) (A_b : Option Addr) (n_b c_b : Nat) (b : List PaneR) (w : World) (f_a : SlN encPaneR (okPaneR 549755813888) w A_a n_a a) (f_b : SlN encPaneR (okPaneR 549755813888) w A_b n_b b) (hn : n_a ≤ 549755813888) (hab : a.map PaneR.dat = b.map PaneR.dat) :
    Calls Tryz.prog 48 #[.slice A_a n_a c_a, .slice A_b n_b c_b] w fun e w' => e = .returned (.bool true) ∧ St w [] [] w' := by
 have hla := f_a.sl.len
 obtain rfl : n_a = n_b := by have h9 := congrArg List.length hab; simp only [List.length_map] at h9; rw [← hla, h9]; exact f_b.sl.len
 refine enter 27 Tryz.func48 rfl Tryz.ntmps48 rfl rfl ?_
 have hs1 := St.init w
 refine WC.r1 hs1 [] rfl (WC.seq (fun K2 hK2 => WC.r1 hs1 [] rfl (WC.condF rfl (by simp) (WC.skip (hK2 _ _ (WC.seq (fun K4 hK4 => WC.r1 hs1 [] rfl ?_)))))))
 refine WC.block (WC.lS [0, 1, 10] rfl hs1 (fun k_ f w' => ∃ (i : Nat), k_ = n_a - i ∧ (i ≤ n_a) ∧ Sub [(5, .int .i64 i)] f) ((fun (i : Nat) => n_a - i) (0)) ?_ ?_)
 ·refine ⟨0, rfl, ?_, ⟨rfl, trivial⟩⟩
  · exact Nat.zero_le _
 clear hs1
 rintro _ f w ⟨i, rfl, p0, hG⟩ hF hs5
 refine WC.sub _ (hG.app hF) ?_
 clear hG hF
 refine WC.seq (fun K6 hK6 => WC.r1 hs5 [] rfl ?_)
 refine WC.cD rfl (fun qh7 => ?_) (fun qh7 => ?_)
 ·have hab_ := gat_dat (F := encPaneR) (i := i) hab (by omega)
  refine WC.skip (hK6 _ _ (WC.seq (fun K8 hK8 => WC.block (WC.sq1 hs5 (WQ.r 2 [] rfl ?_)))))
  refine WQ.val rfl rfl rfl (fun w_ hs_ => (Run.idxN Tryz.runUnderlying29 Tryz.sizeOf93 rfl rfl rfl ?_ ?_ ?_)) ?_
  · exact SlF.some_ (SlF.st0 f_a.sl (hs_ : St _ _ _ _))
  · omega
  · omega
  refine WQ.val rfl rfl rfl (fun w_ hs_ => (Run.loadA Tryz.isAgg93 Tryz.sizeOf93 rfl rfl (SlF.whole (SlF.st0 f_a.sl (hs_ : St _ _ _ _)) ?_))) ?_
  · omega
  refine WQ.r 2 [] rfl ?_
  refine WQ.val rfl rfl rfl (fun w_ hs_ => (Run.idxN Tryz.runUnderlying29 Tryz.sizeOf93 rfl rfl rfl ?_ ?_ ?_)) ?_
  · exact SlF.some_ (SlF.st0 f_b.sl (hs_ : St _ _ _ _))
  · omega
  · omega
  refine WQ.val rfl rfl rfl (fun w_ hs_ => (Run.loadA Tryz.isAgg93 Tryz.sizeOf93 rfl rfl (SlF.whole (SlF.st0 f_b.sl (hs_ : St _ _ _ _)) ?_))) ?_
  · omega
  refine WQ.call rfl rfl rfl (fun w_ hs_ => (Run.call Tryz.call108 rfl rfl rfl)) (fun w_ hs_ => (k90_ (gat encPaneR a i) (gat encPaneR b i) _ (okPaneR.st0 (SlN.nth f_a (by omega)) (hs_ : St _ _ _ _)) (okPaneR.st0 (SlN.nth f_b (by omega)) (hs_ : St _ _ _ _)) ?_).mono fun e_ w_ h_ => ⟨h_.1, (hs_ : St _ _ _ _).call0 h_.2⟩) ?_
  · first | assumption | rfl | omega
  refine WQ.r 1 [] rfl (WQ.nil (fun _ (hs9 : St _ _ _ _) => WC.condF rfl (by simp) (WC.skip (hK8 _ _ (WC.region (WL.r 3 hs9 [] rfl (WL.nil ?_)))))))
  refine tkN (⟨sbF rfl, hs9, _, ?_, i + 1, rfl, ?_, ⟨rfl, trivial⟩⟩)
  · omega
  · omega
 refine WC.exit (hK4 _ _ (WC.r1 hs5 [] rfl (WC.ret (rtv rfl rfl hs5 ?_))))
 rfl
theorem k94_ (A_a : Option Addr) (n_a c_a : Nat) (a : List WinR) (A_b : Option Addr) (n_b c_b : Nat) (b : List WinR) (w : World) (f_a : SlN encWinR (okWinR 549755813888) w A_a n_a a) (f_b : SlN encWinR (okWinR 549755813888) w A_b n_b b) (hn : n_a ≤ 549755813888) (hab : a.map WinR.dat = b.map WinR.dat) :
    Calls Tryz.prog 49 #[.slice A_a n_a c_a, .slice A_b n_b c_b] w fun e w' => e = .returned (.bool true) ∧ St w [] [] w' := by
 have hla := f_a.sl.len
 obtain rfl : n_a = n_b := by have h9 := congrArg List.length hab; simp only [List.length_map] at h9; rw [← hla, h9]; exact f_b.sl.len
 refine enter 27 Tryz.func49 rfl Tryz.ntmps49 rfl rfl ?_
 have hs1 := St.init w
 refine WC.r1 hs1 [] rfl (WC.seq (fun K2 hK2 => WC.r1 hs1 [] rfl (WC.condF rfl (by simp) (WC.skip (hK2 _ _ (WC.seq (fun K4 hK4 => WC.r1 hs1 [] rfl ?_)))))))
 refine WC.block (WC.lS [0, 1, 10] rfl hs1 (fun k_ f w' => ∃ (i : Nat), k_ = n_a - i ∧ (i ≤ n_a) ∧ Sub [(5, .int .i64 i)] f) ((fun (i : Nat) => n_a - i) (0)) ?_ ?_)
 ·refine ⟨0, rfl, ?_, ⟨rfl, trivial⟩⟩
  · exact Nat.zero_le _
 clear hs1
 rintro _ f w ⟨i, rfl, p0, hG⟩ hF hs5
 refine WC.sub _ (hG.app hF) ?_
 clear hG hF
 refine WC.seq (fun K6 hK6 => WC.r1 hs5 [] rfl ?_)
 refine WC.cD rfl (fun qh7 => ?_) (fun qh7 => ?_)
 ·have hab_ := gat_dat (F := encWinR) (i := i) hab (by omega)
  refine WC.skip (hK6 _ _ (WC.seq (fun K8 hK8 => WC.block (WC.sq1 hs5 (WQ.r 2 [] rfl ?_)))))
  refine WQ.val rfl rfl rfl (fun w_ hs_ => (Run.idxN Tryz.runUnderlying30 Tryz.sizeOf58 rfl rfl rfl ?_ ?_ ?_)) ?_
  · exact SlF.some_ (SlF.st0 f_a.sl (hs_ : St _ _ _ _))
  · omega
  · omega
  refine WQ.val rfl rfl rfl (fun w_ hs_ => (Run.loadA Tryz.isAgg58 Tryz.sizeOf58 rfl rfl (SlF.whole (SlF.st0 f_a.sl (hs_ : St _ _ _ _)) ?_))) ?_
  · omega
  refine WQ.r 2 [] rfl ?_
  refine WQ.val rfl rfl rfl (fun w_ hs_ => (Run.idxN Tryz.runUnderlying30 Tryz.sizeOf58 rfl rfl rfl ?_ ?_ ?_)) ?_
  · exact SlF.some_ (SlF.st0 f_b.sl (hs_ : St _ _ _ _))
  · omega
  · omega
  refine WQ.val rfl rfl rfl (fun w_ hs_ => (Run.loadA Tryz.isAgg58 Tryz.sizeOf58 rfl rfl (SlF.whole (SlF.st0 f_b.sl (hs_ : St _ _ _ _)) ?_))) ?_
  · omega
  refine WQ.call rfl rfl rfl (fun w_ hs_ => (Run.call Tryz.call109 rfl rfl rfl)) (fun w_ hs_ => (k91_ (gat encWinR a i) (gat encWinR b i) _ (okWinR.st0 (SlN.nth f_a (by omega)) (hs_ : St _ _ _ _)) (okWinR.st0 (SlN.nth f_b (by omega)) (hs_ : St _ _ _ _)) ?_).mono fun e_ w_ h_ => ⟨h_.1, (hs_ : St _ _ _ _).call0 h_.2⟩) ?_
  · first | assumption | rfl | omega
  refine WQ.r 1 [] rfl (WQ.nil (fun _ (hs9 : St _ _ _ _) => WC.condF rfl (by simp) (WC.skip (hK8 _ _ (WC.region (WL.r 3 hs9 [] rfl (WL.nil ?_)))))))
  refine tkN (⟨sbF rfl, hs9, _, ?_, i + 1, rfl, ?_, ⟨rfl, trivial⟩⟩)
  · omega
  · omega
 refine WC.exit (hK4 _ _ (WC.r1 hs5 [] rfl (WC.ret (rtv rfl rfl hs5 ?_))))
 rfl
theorem k95_ (A_a : Option Addr) (n_a c_a : Nat) (a : List SessR) (A_b : Option Addr) (n_b c_b : Nat) (b : List SessR) (w : World) (f_a : SlN encSessR (okSessR 549755813888) w A_a n_a a) (f_b : SlN encSessR (okSessR 549755813888) w A_b n_b b) (hn : n_a ≤ 549755813888) (hab : a.map SessR.dat = b.map SessR.dat) :
    Calls Tryz.prog 50 #[.slice A_a n_a c_a, .slice A_b n_b c_b] w fun e w' => e = .returned (.bool true) ∧ St w [] [] w' := by
 have hla := f_a.sl.len
 obtain rfl : n_a = n_b := by have h9 := congrArg List.length hab; simp only [List.length_map] at h9; rw [← hla, h9]; exact f_b.sl.len
 refine enter 27 Tryz.func50 rfl Tryz.ntmps50 rfl rfl ?_
 have hs1 := St.init w
 refine WC.r1 hs1 [] rfl (WC.seq (fun K2 hK2 => WC.r1 hs1 [] rfl (WC.condF rfl (by simp) (WC.skip (hK2 _ _ (WC.seq (fun K4 hK4 => WC.r1 hs1 [] rfl ?_)))))))
 refine WC.block (WC.lS [0, 1, 10] rfl hs1 (fun k_ f w' => ∃ (i : Nat), k_ = n_a - i ∧ (i ≤ n_a) ∧ Sub [(5, .int .i64 i)] f) ((fun (i : Nat) => n_a - i) (0)) ?_ ?_)
 ·refine ⟨0, rfl, ?_, ⟨rfl, trivial⟩⟩
  · exact Nat.zero_le _
 clear hs1
 rintro _ f w ⟨i, rfl, p0, hG⟩ hF hs5
 refine WC.sub _ (hG.app hF) ?_
 clear hG hF
 refine WC.seq (fun K6 hK6 => WC.r1 hs5 [] rfl ?_)
 refine WC.cD rfl (fun qh7 => ?_) (fun qh7 => ?_)
 ·have hab_ := gat_dat (F := encSessR) (i := i) hab (by omega)
  refine WC.skip (hK6 _ _ (WC.seq (fun K8 hK8 => WC.block (WC.sq1 hs5 (WQ.r 2 [] rfl ?_)))))
  refine WQ.val rfl rfl rfl (fun w_ hs_ => (Run.idxN Tryz.runUnderlying31 Tryz.sizeOf106 rfl rfl rfl ?_ ?_ ?_)) ?_
  · exact SlF.some_ (SlF.st0 f_a.sl (hs_ : St _ _ _ _))
  · omega
  · omega
  refine WQ.val rfl rfl rfl (fun w_ hs_ => (Run.loadA Tryz.isAgg106 Tryz.sizeOf106 rfl rfl (SlF.whole (SlF.st0 f_a.sl (hs_ : St _ _ _ _)) ?_))) ?_
  · omega
  refine WQ.r 2 [] rfl ?_
  refine WQ.val rfl rfl rfl (fun w_ hs_ => (Run.idxN Tryz.runUnderlying31 Tryz.sizeOf106 rfl rfl rfl ?_ ?_ ?_)) ?_
  · exact SlF.some_ (SlF.st0 f_b.sl (hs_ : St _ _ _ _))
  · omega
  · omega
  refine WQ.val rfl rfl rfl (fun w_ hs_ => (Run.loadA Tryz.isAgg106 Tryz.sizeOf106 rfl rfl (SlF.whole (SlF.st0 f_b.sl (hs_ : St _ _ _ _)) ?_))) ?_
  · omega
  refine WQ.call rfl rfl rfl (fun w_ hs_ => (Run.call Tryz.call110 rfl rfl rfl)) (fun w_ hs_ => (k92_ (gat encSessR a i) (gat encSessR b i) _ (okSessR.st0 (SlN.nth f_a (by omega)) (hs_ : St _ _ _ _)) (okSessR.st0 (SlN.nth f_b (by omega)) (hs_ : St _ _ _ _)) ?_).mono fun e_ w_ h_ => ⟨h_.1, (hs_ : St _ _ _ _).call0 h_.2⟩) ?_
  · first | assumption | rfl | omega
  refine WQ.r 1 [] rfl (WQ.nil (fun _ (hs9 : St _ _ _ _) => WC.condF rfl (by simp) (WC.skip (hK8 _ _ (WC.region (WL.r 3 hs9 [] rfl (WL.nil ?_)))))))
  refine tkN (⟨sbF rfl, hs9, _, ?_, i + 1, rfl, ?_, ⟨rfl, trivial⟩⟩)
  · omega
  · omega
 refine WC.exit (hK4 _ _ (WC.r1 hs5 [] rfl (WC.ret (rtv rfl rfl hs5 ?_))))
 rfl
set_option maxHeartbeats 4000000 in
theorem k96_ (a : StateR) (b : StateR) (w : World) (f_a : okStateR 549755813888 w a) (f_b : okStateR 549755813888 w b) (hab : a.dat = b.dat) :
    Calls Tryz.prog 15 #[.agg #[i64 a.W, i64 a.H, i64 a.Limit, i64 a.Next, .slice a.Panes.A a.Panes.n a.Panes.c, .slice a.Wins.A a.Wins.n a.Wins.c, .slice a.Sess.A a.Sess.n a.Sess.c], .agg #[i64 b.W, i64 b.H, i64 b.Limit, i64 b.Next, .slice b.Panes.A b.Panes.n b.Panes.c, .slice b.Wins.A b.Wins.n b.Wins.c, .slice b.Sess.A b.Sess.n b.Sess.c]] w fun e w' => e = .returned (.bool true) ∧ St w [] [] w' := by
 have nb_a_Panes := f_a.Panes_n
 have nl_a_Panes := f_a.Panes.sl.len
 have nb_a_Wins := f_a.Wins_n
 have nl_a_Wins := f_a.Wins.sl.len
 have nb_a_Sess := f_a.Sess_n
 have nl_a_Sess := f_a.Sess.sl.len
 have nb_b_Panes := f_b.Panes_n
 have nl_b_Panes := f_b.Panes.sl.len
 have nb_b_Wins := f_b.Wins_n
 have nl_b_Wins := f_b.Wins.sl.len
 have nb_b_Sess := f_b.Sess_n
 have nl_b_Sess := f_b.Sess.sl.len
 have e_W : a.W = b.W := congrArg (fun d : StateD => d.W) hab
 have e_H : a.H = b.H := congrArg (fun d : StateD => d.H) hab
 have e_Limit : a.Limit = b.Limit := congrArg (fun d : StateD => d.Limit) hab
 have e_Next : a.Next = b.Next := congrArg (fun d : StateD => d.Next) hab
 have e_Panes : a.Panes.xs.map PaneR.dat = b.Panes.xs.map PaneR.dat := congrArg (fun d : StateD => d.Panes) hab
 have e_Wins : a.Wins.xs.map WinR.dat = b.Wins.xs.map WinR.dat := congrArg (fun d : StateD => d.Wins) hab
 have e_Sess : a.Sess.xs.map SessR.dat = b.Sess.xs.map SessR.dat := congrArg (fun d : StateD => d.Sess) hab
 refine enter 43 Tryz.func15 rfl Tryz.ntmps15 rfl rfl ?_
 have hs1 := St.init w
 refine WC.sr (WL.bx hs1 rfl (fun b2 _ hs3 => WL.bx hs3 rfl (fun b4 _ hs5 => WL.r 1 hs5 [] rfl (WL.nil (WC.seq (fun K6 hK6 => WC.r1 hs5 [1, 0] rfl (WC.condF rfl (by simp [e_W, e_H, e_Limit, e_Next]) ?_)))))))
 refine WC.skip (hK6 _ _ (WC.seq (fun K8 hK8 => WC.r1 hs5 [1, 0] rfl (WC.condF rfl (by simp [e_W, e_H, e_Limit, e_Next]) (WC.skip (hK8 _ _ (WC.seq (fun K10 hK10 => ?_))))))))
 refine WC.r1 hs5 [1, 0] rfl (WC.condF rfl (by simp [e_W, e_H, e_Limit, e_Next]) (WC.skip (hK10 _ _ (WC.seq (fun K12 hK12 => WC.r1 hs5 [1, 0] rfl (WC.condF rfl (by simp [e_W, e_H, e_Limit, e_Next]) (WC.skip ?_)))))))
 refine hK12 _ _ (WC.seq (fun K14 hK14 => WC.sr (WL.r 4 hs5 [1, 0] rfl ?_)))
 refine WL.cl Tryz.call48 rfl (k93_ _ _ _ _ _ _ _ _ _ (SlN.st0 okPaneR.st0 f_a.Panes hs5) (SlN.st0 okPaneR.st0 f_b.Panes hs5) ?_ ?_) ?_
 iterate 2 first | assumption | rfl | omega
 rintro _ whs15 ⟨rfl, hs15⟩
 replace hs15 := hs5.call0 hs15
 refine ⟨_, rfl, WL.r 1 hs15 [] rfl (WL.nil (WC.condF rfl (by simp [e_W, e_H, e_Limit, e_Next]) (WC.skip (hK14 _ _ (WC.seq (fun K17 hK17 => WC.sr ?_))))))⟩
 refine WL.r 4 hs15 [1, 0] rfl (WL.cl Tryz.call49 rfl (k94_ _ _ _ _ _ _ _ _ _ (SlN.st0 okWinR.st0 f_a.Wins hs15) (SlN.st0 okWinR.st0 f_b.Wins hs15) ?_ ?_) ?_)
 iterate 2 first | assumption | rfl | omega
 rintro _ whs18 ⟨rfl, hs18⟩
 replace hs18 := hs15.call0 hs18
 refine ⟨_, rfl, WL.r 1 hs18 [] rfl (WL.nil (WC.condF rfl (by simp [e_W, e_H, e_Limit, e_Next]) (WC.skip (hK17 _ _ (WC.seq (fun K20 hK20 => WC.sr ?_))))))⟩
 refine WL.r 4 hs18 [1, 0] rfl (WL.cl Tryz.call50 rfl (k95_ _ _ _ _ _ _ _ _ _ (SlN.st0 okSessR.st0 f_a.Sess hs18) (SlN.st0 okSessR.st0 f_b.Sess hs18) ?_ ?_) ?_)
 iterate 2 first | assumption | rfl | omega
 rintro _ whs21 ⟨rfl, hs21⟩
 replace hs21 := hs18.call0 hs21
 refine ⟨_, rfl, WL.r 1 hs21 [] rfl (WL.nil (WC.condF rfl (by simp [e_W, e_H, e_Limit, e_Next]) (WC.skip (hK20 _ _ (WC.r1 hs21 [] rfl (WC.ret ?_))))))⟩
 refine rtv rfl rfl hs21 ?_
 rfl
set_option maxHeartbeats 8000000 in
theorem k97_ (aS : StateR) (p : Int) (w : World) (f_aS : okStateR 9223372036854775807 w aS) :
    Calls Tryz.prog 4 #[.agg #[i64 aS.W, i64 aS.H, i64 aS.Limit, i64 aS.Next, .slice aS.Panes.A aS.Panes.n aS.Panes.c, .slice aS.Wins.A aS.Wins.n aS.Wins.c, .slice aS.Sess.A aS.Sess.n aS.Sess.c], i64 p] w fun e w' => e = .returned (.bool true) ∧ St w [] [] w' := by
 have nb_aS_Panes := f_aS.Panes_n
 have nl_aS_Panes := f_aS.Panes.sl.len
 have nb_aS_Wins := f_aS.Wins_n
 have nl_aS_Wins := f_aS.Wins.sl.len
 have nb_aS_Sess := f_aS.Sess_n
 have nl_aS_Sess := f_aS.Sess.sl.len
 refine enter 44 Tryz.func4 rfl Tryz.ntmps4 rfl rfl ?_
 have hs1 := St.init w
 refine WC.sr (WL.bx hs1 rfl (fun b2 _ hs3 => WL.r 1 hs3 [] rfl (WL.nil (WC.r1 hs3 [] rfl (WC.sr (WL.r 2 hs3 [0] rfl ?_))))))
 refine WL.cl Tryz.call11 rfl (k82_ aS _ _ (okStateR.st0 f_aS hs3) ?_ ?_) ?_
 · first | assumption | omega | (simp only [endState]; first | done | assumption | omega)
 · first | assumption | omega | exact szR_b (by assumption) (by omega) (by first | assumption | omega) | (simp only [endState]; first | done | assumption | omega)
 rintro _ whs4 ⟨rfl, hs4⟩
 replace hs4 := hs3.call0 hs4
 refine ⟨_, rfl, WL.r 1 hs4 [] rfl (WL.nil (WC.seq (fun K5 hK5 => WC.r1 hs4 [] rfl ?_)))⟩
 refine WC.cD rfl (fun qh6 => ?_) (fun qh6 => ?_)
 ·refine WC.r1 hs4 [] rfl (WC.ret (tkR ?_))
  clear hK5
  refine rtv rfl rfl hs4 ?_
  rfl
 simp only [szR] at qh6
 have hb_aS : totState aS.dat ≤ 1048576 := by split at qh6 <;> omega
 have hsm_aS : smState 1048576 aS.dat := totState_sm hb_aS
 have hsB_aS : smState 549755813888 aS.dat := totState_sm (by omega)
 have f_aS := f_aS.to hsB_aS
 refine WC.skip (hK5 _ _ (WC.sr (WL.r 1 hs4 [0] rfl (WL.cl Tryz.call13 rfl (k83_ aS _ (okStateR.st0 f_aS hs4)) ?_))))
 rintro _ whs7 ⟨r8, L1_9, rfl, hs7, ho10, hd11⟩
 replace hs7 := hs4.callF hs7
 refine ⟨_, rfl, ?_⟩
 replace hs7 := St.back [_] hs7
 refine WL.r 1 hs7 [] rfl ?_
 refine WL.cl Tryz.call16 rfl (k69_ r8 _ _ (ownStateR.ok (B := 549755813888) ho10 (hs7.ow L1_9) (by rw [hd11]; assumption)) ?_) ?_
 · first | assumption | rfl | omega | (simp only [hd11, endState]; first | done | assumption | omega)
 rintro _ whs12 ⟨rfl, hs12⟩
 replace hs12 := hs7.call0 hs12
 refine ⟨_, rfl, WL.r 5 hs12 [] rfl (WL.nil (WC.sr (WL.r 1 hs12 [0] rfl (WL.cl Tryz.call13 rfl (k83_ aS _ (okStateR.st0 f_aS hs12)) ?_))))⟩
 rintro _ whs13 ⟨r14, L1_15, rfl, hs13, ho16, hd17⟩
 try simp only [hd11] at hd17
 replace hs13 := hs12.callF hs13
 refine ⟨_, rfl, ?_⟩
 replace hs13 := St.back [_] hs13
 refine WL.al hs13 Tryz.zeroValue33 rfl rfl (fun b18 _ hs19 => WL.st tbk hs19 0 rfl rfl (fun _ hs20 => WL.nil (WC.sr (WL.r 2 hs20 [0] rfl ?_))))
 refine WL.cl Tryz.call17 rfl (k68_ r14 _ _ (ownStateR.ok (B := 549755813888) ho16 (hs20.ow L1_15) (by rw [hd17]; assumption)) ?_) ?_
 · first | assumption | rfl | omega | (simp only [hd11, hd17, endState]; first | done | assumption | omega)
 rintro _ whs21 ⟨rfl, hs21⟩
 replace hs21 := hs20.call0 hs21
 refine ⟨_, rfl, WL.r 5 hs21 [] rfl (WL.nil (WC.seq (fun K22 hK22 => WC.sr (WL.r 4 hs21 [] rfl (WL.pO tbk 3 Acts.nil hs21 [] rfl rfl rfl rfl (fun g_ => trivial) (WL.nil ?_))))))⟩
 refine WC.condF rfl (by first | (simp; done) | (simp; omega) | (simp [hd11, hd17]; done) | (simp [hd11, hd17]; omega) | (simp only [endState]; simp; omega)) (WC.skip (hK22 _ _ (WC.seq (fun K24 hK24 => WC.seq (fun K25 hK25 => WC.rH hs21 hs21 (fun _ hs26 => ?_))))))
 refine WH.rn [0, 1] hs26 [0, 1] rfl rfl (WH.o1 2 rfl (WL.cl Tryz.call13 rfl (k83_ aS _ (okStateR.st0 f_aS hs26)) ?_))
 rintro _ whs27 ⟨r28, L1_29, rfl, hs27, ho30, hd31⟩
 try simp only [hd11, hd17] at hd31
 replace hs27 := hs26.callF hs27
 refine ⟨_, rfl, ?_⟩
 replace hs27 := St.back [_, _] hs27
 refine WL.nil ⟨(hs27.rm L1_29), WH.o1 3 rfl ?_⟩
 refine WL.cl Tryz.call15 rfl (k96_ r14 r28 _ (ownStateR.ok (B := 549755813888) ho16 (hs27.ow L1_15) (by rw [hd17]; assumption)) (ownStateR.ok (B := 549755813888) ho30 (hs27.ow L1_29) (by rw [hd31]; assumption)) ?_) ?_
 · first | assumption | rfl | omega | (simp only [hd11, hd17, hd31, endState]; first | done | assumption | omega)
 rintro _ whs32 ⟨rfl, hs32⟩
 replace hs32 := hs27.call0 hs32
 refine ⟨_, rfl, WL.nil ⟨(hs32.rm L1_29), WH.rn [4] (hs32.rm L1_29) [] rfl rfl (WH.dn (hK25 _ _ ?_))⟩⟩
 refine WC.condF rfl (by first | (simp; done) | (simp; omega) | (simp [hd11, hd17, hd31]; done) | (simp [hd11, hd17, hd31]; omega) | (simp only [endState]; simp; omega)) (WC.skip (hK24 _ _ (WC.r1 hs32 [] rfl (WC.ret (rtv rfl rfl hs32 ?_)))))
 rfl
open Go Go.RowKit Go.ChangeShapes Go.WideShapes Go.ChangeAt Go.Deep
theorem list_succ {n : Nat} {l : List Value} (h : l.length = n + 1) : ∃ c r, l = c :: r ∧ r.length = n := by
 cases l with
 | nil => simp at h
 | cons c r => exact ⟨c, r, rfl, by simpa using h⟩
theorem list_zero {l : List Value} (h : l.length = 0) : l = [] := List.eq_nil_of_length_eq_zero h
section
variable {H : Type} {enc : TypeId × Value → H} {P : Program} {w : World} {base : Nat} {spare : Nat → Bool} {held : Bool} {fuel : Nat} {t e : TypeId} {cs : List Value} {x : DataW H × List MemPlace}
theorem trod_flds {fs : Array Field} (ht : P.underlying t = some (.struct fs)) (h : DataW.trod enc P w base spare held fuel t cs = some x) :
  cs.length = P.cellsOf t ∧ ∃ n, ∀ (i : Nat) (f : Field), fs.toList[i]? = some f → ∃ y, DataW.trod enc P w base spare held n f.type ((cs.drop f.offset).take (P.cellsOf f.type)) = some y := by
 obtain ⟨xs, n, _, _, hl, hlen, hg⟩ := DataW.trod_struct ht h
 refine ⟨hl, n, fun i f hf => ?_⟩
 have hf' : fs[i]? = some f := by simpa using hf
 have hi : i < xs.length := by rw [hlen]; exact (Array.getElem?_eq_some_iff.1 hf').1
 exact ⟨xs[i], (hg i f hf').trans (List.getElem?_eq_getElem hi)⟩
theorem open_i64 (ht : P.underlying t = some (.int .i64)) (h : DataW.trod enc P w base spare held fuel t cs = some x) : ∃ n, cs = [i64 n] ∧ In64 n := by
 obtain ⟨n, rfl, _, hw⟩ := DataW.trod_int ht h
 refine ⟨n, rfl, ?_⟩
 simp [Lit.wf, IntKind.min, IntKind.max, IntKind.signed, IntKind.bits] at hw
 exact hw
theorem open_str (ht : P.underlying t = some .string) (h : DataW.trod enc P w base spare held fuel t cs = some x) : ∃ s, cs = [.string s] ∧ s.size ≤ 9223372036854775807 := by
 obtain ⟨s, rfl, _, hw⟩ := DataW.trod_string ht h
 exact ⟨s, rfl, by simpa [maxLen] using hw⟩
theorem open_bool' (ht : P.underlying t = some .bool) (h : DataW.trod enc P w base spare held fuel t cs = some x) : ∃ b, cs = [.bool b] := by
 obtain ⟨b, rfl, _⟩ := DataW.trod_bool ht h
 exact ⟨b, rfl⟩
theorem open_SlF {α : Type} {F : Enc α} {good : α → Prop} (ht : P.underlying t = some (.slice e)) (hc : P.cellsOf e = F.sz)
  (hE : ∀ n cs' y, DataW.trod enc P w base spare held n e cs' = some y → ∃ d, cs' = F.enc d ∧ good d) (h : DataW.trod enc P w base spare held fuel t cs = some x) :
  ∃ A n c xs, cs = [.slice A n c] ∧ SlF F w A n xs ∧ n ≤ 9223372036854775807 ∧ ∀ d, d ∈ xs → good d := by
 rcases open_slice ht h with ⟨rfl, _⟩ | ⟨a, l, c, m, n, D, Pl, rfl, _, hl, hm, hmm, _, hx⟩
 ·exact ⟨none, 0, 0, [], rfl, ⟨rfl, SlR.nil _ _ _⟩, by omega, fun z h => by cases h⟩
 ·have hlm : l ≤ m := by rw [hmm]; split <;> omega
  have : Inhabited α := ⟨F.dflt⟩
  have each : ∀ i, i < l → ∃ d : α, good d ∧ ∀ r, r < F.sz → w.cell? (a.add (i * F.sz + r)) = (F.enc d)[r]? := by
   intro i hi
   obtain ⟨cs', h1, h2⟩ := hx i (by omega)
   obtain ⟨d, rfl, hg⟩ := hE _ _ _ h2
   obtain ⟨_, _, h3⟩ := World.cells?_some h1
   refine ⟨d, hg, fun r hr => ?_⟩
   have := h3 r (by rw [hc]; exact hr)
   rw [← this, hc]
   congr 1
   rw [Addr.add_add']
  obtain ⟨d, hd⟩ := choose_lt each
  have hlen : ((List.range l).map d).length = l := by simp
  refine ⟨some a, l, c, (List.range l).map d, rfl, ⟨hlen, ⟨by rw [rows_len, hlen], fun _ => rfl, fun j v hv => ?_⟩⟩, by simp only [maxLen] at hm; omega, fun z hz => ?_⟩
  ·have hj := (List.getElem?_eq_some_iff.1 hv).1
   rw [rows_len, hlen] at hj
   have hp := F.pos
   have hi : j / F.sz < l := Nat.div_lt_of_lt_mul (by rw [Nat.mul_comm]; exact hj)
   have hr : j % F.sz < F.sz := Nat.mod_lt _ hp
   have ej : j / F.sz * F.sz + j % F.sz = j := by rw [Nat.mul_comm]; exact Nat.div_add_mod _ _
   have e1 := (hd (j / F.sz) hi).2 (j % F.sz) hr
   rw [ej] at e1
   show w.cell? (a.add j) = some v
   rw [e1, ← hv]
   have e2 := rows_get (F := F) (xs := (List.range l).map d) (k := j / F.sz) (by rw [hlen]; exact hi) hr
   rw [ej] at e2
   rw [e2]
   have e3 : gat F ((List.range l).map d) (j / F.sz) = d (j / F.sz) := by
    have := gat_get (F := F) (xs := (List.range l).map d) (k := j / F.sz) (by rw [hlen]; exact hi)
    rw [List.getElem?_map, List.getElem?_range hi] at this
    exact (Option.some.inj this).symm
   rw [e3]
  ·obtain ⟨i, hi, rfl⟩ := List.mem_map.1 hz
   exact (hd i (by simpa using hi)).1
theorem open_u8 (ht : P.underlying t = some (.int .u8)) (h : DataW.trod enc P w base spare held fuel t cs = some x) : ∃ b : UInt8, cs = encB.enc b ∧ True := by
 obtain ⟨n, rfl, _, hw⟩ := DataW.trod_int ht h
 simp [Lit.wf, IntKind.min, IntKind.max, IntKind.signed, IntKind.bits] at hw
 refine ⟨UInt8.ofNat n.toNat, ?_, trivial⟩
 show [Value.int .u8 n] = [Value.int .u8 (UInt8.ofNat n.toNat).toNat]
 congr 2
 rw [UInt8.toNat_ofNat']
 omega
theorem open_e64 (ht : P.underlying t = some (.int .i64)) (h : DataW.trod enc P w base spare held fuel t cs = some x) : ∃ n : Int, cs = encI.enc n ∧ In64 n := open_i64 ht h
theorem open_SlE {α : Type} {F : Enc α} {good : α → Prop} (ht : P.underlying t = some (.slice e)) (hc : P.cellsOf e = F.sz)
  (hE : ∀ n cs' y, DataW.trod enc P w base spare held n e cs' = some y → ∃ d, cs' = F.enc d ∧ good d) (h : DataW.trod enc P w base spare held fuel t cs = some x) :
  ∃ A n c xs, cs = [.slice A n c] ∧ SlF F w A n xs ∧ n ≤ c ∧ n ≤ 9223372036854775807 ∧ ∀ d, d ∈ xs → good d := by
 obtain ⟨A, n, c, xs, e1, f, hn, hg⟩ := open_SlF ht hc hE h
 refine ⟨A, n, c, xs, e1, f, ?_, hn, hg⟩
 rcases open_slice ht h with ⟨e2, _⟩ | ⟨a, l, c', m, n', D, Pl, e2, _, hl, _⟩
 ·rw [e1] at e2
  cases e2
  exact Nat.le_refl _
 ·rw [e1] at e2
  cases e2
  exact hl
end
end Go.Proofs.YthfhhldbglaieaaGreat
