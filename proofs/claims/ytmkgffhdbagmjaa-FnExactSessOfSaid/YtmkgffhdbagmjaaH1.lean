/- Walks of Go functions, printed by a program (wip/gen). -/
import Derived.Test.YtmkgffhdbagmjaaD2
import Derived.Test.YtmkgffhdbagmjaaG1
namespace Go.Proofs.Ytmkgffhdbagmjaa
open Go Go.RowKit
set_option linter.unusedVariables false
set_option linter.unusedSimpArgs false
theorem info_125 : Try.prog.info? 125 = some Try.t125 := by kernel_rfl
set_option maxHeartbeats 4000000 in
theorem c_laws_toGrid (a : GridR) (w : World) (f_a : okGridR 549755813888 w a) :
    Calls Try.prog 78 #[.agg #[i64 a.W, i64 a.H, .slice a.Cells.A a.Cells.n a.Cells.c]] w fun e w' => ∃ r L1, e = .returned (.agg #[i64 r.W, i64 r.H, .slice r.Cells.A r.Cells.n r.Cells.c]) ∧ St w [] L1 w' ∧ ownGridR r L1 ∧ r.dat = a.dat := by
 have nb_a_Cells := f_a.Cells_n
 have nl_a_Cells := f_a.Cells.len
 refine enter (vs := [.agg #[i64 a.W, i64 a.H, .slice a.Cells.A a.Cells.n a.Cells.c]]) 15 Try.func78 rfl Try.ntmps78 rfl rfl ?_
 have hs1 := St.init w
 refine WC.sr ?_
 refine WL.bx hs1 rfl (fun b2 _ hs3 => ?_)
 refine WL.al hs3 Try.zeroValue43 rfl rfl (fun b4 _ hs5 => ?_)
 refine WL.nil ?_
 refine WC.sr ?_
 refine WL.al hs5 Try.zeroValue43 rfl rfl (fun b6 _ hs7 => ?_)
 refine WL.nil ?_
 refine WC.sr ?_
 refine WL.run tbk 3 hs7 [2] rfl ⟨rfl, trivial⟩ ?_
 refine WL.st tbk hs7 0 rfl rfl (fun _ hs8 => ?_)
 refine WL.nil ?_
 refine WC.sr ?_
 refine WL.run tbk 3 hs8 [2] rfl ⟨rfl, trivial⟩ ?_
 refine WL.st tbk hs8 0 rfl rfl (fun _ hs9 => ?_)
 refine WL.nil ?_
 refine WC.sr ?_
 refine WL.run tbk 2 hs9 [2] rfl ⟨rfl, trivial⟩ ?_
 refine WL.call rfl rfl rfl (Run.call Try.call100 rfl rfl rfl) (c_laws_toCellS _ _ _ _ _ (SlF.st0 f_a.Cells hs9) ?_) ?_
 · first | assumption | rfl | omega
 rintro _ whs10 ⟨A11, c12, L113, rfl, hs10, ho14⟩
 replace hs10 := hs9.callF hs10
 refine ⟨_, rfl, ?_⟩
 replace hs10 := St.back [_, _, _] hs10
 refine WL.run tbk 1 hs10 [] rfl trivial ?_
 refine WL.st tbk hs10 0 rfl rfl (fun _ hs15 => ?_)
 refine WL.nil ?_
 refine WC.sr ?_
 refine WL.run tbk 1 hs15 [0] rfl ⟨rfl, trivial⟩ ?_
 refine WL.st tbk hs15 1 rfl rfl (fun _ hs16 => ?_)
 refine WL.nil ?_
 refine WC.ret ?_
 refine retV1 rfl (resV.cellA tbk hs16 1 rfl rfl rfl rfl) ?_
 refine ⟨⟨a.W, a.H, SlD.of ho14⟩, _, rfl, (St.keep1 (St.perm hs16 (L' := L113 ++ _) (perm_front (A := [_, _, _]) (List.Perm.refl _)))), ?_, ?_⟩
 · exact ho14
 · exact GridD.ext' rfl rfl rfl
set_option maxHeartbeats 4000000 in
theorem c_laws_eqGrid (a : GridR) (b : GridR) (w : World) (f_a : okGridR 549755813888 w a) (f_b : okGridR 549755813888 w b) (hab : a.dat = b.dat) :
    Calls Try.prog 90 #[.agg #[i64 a.W, i64 a.H, .slice a.Cells.A a.Cells.n a.Cells.c], .agg #[i64 b.W, i64 b.H, .slice b.Cells.A b.Cells.n b.Cells.c]] w fun e w' => e = .returned (.bool true) ∧ St w [] [] w' := by
 have nb_a_Cells := f_a.Cells_n
 have nl_a_Cells := f_a.Cells.len
 have nb_b_Cells := f_b.Cells_n
 have nl_b_Cells := f_b.Cells.len
 have e_W : a.W = b.W := congrArg (fun d : GridD => d.W) hab
 have e_H : a.H = b.H := congrArg (fun d : GridD => d.H) hab
 have e_Cells : a.Cells.xs = b.Cells.xs := congrArg (fun d : GridD => d.Cells) hab
 refine enter (vs := [.agg #[i64 a.W, i64 a.H, .slice a.Cells.A a.Cells.n a.Cells.c], .agg #[i64 b.W, i64 b.H, .slice b.Cells.A b.Cells.n b.Cells.c]]) 21 Try.func90 rfl Try.ntmps90 rfl rfl ?_
 have hs1 := St.init w
 refine WC.sr ?_
 refine WL.bx hs1 rfl (fun b2 _ hs3 => ?_)
 refine WL.bx hs3 rfl (fun b4 _ hs5 => ?_)
 refine WL.run tbk 1 hs5 [] rfl trivial ?_
 refine WL.nil ?_
 refine WC.seq (fun K6 hK6 => ?_)
 refine WC.rr tbk hs5 [1, 0] rfl ⟨rfl, rfl, trivial⟩ ?_
 refine WC.condF rfl (by simp [e_W, e_H]) ?_
 refine WC.skip ?_
 refine hK6 _ _ ?_
 refine WC.seq (fun K8 hK8 => ?_)
 refine WC.rr tbk hs5 [1, 0] rfl ⟨rfl, rfl, trivial⟩ ?_
 refine WC.condF rfl (by simp [e_W, e_H]) ?_
 refine WC.skip ?_
 refine hK8 _ _ ?_
 refine WC.seq (fun K10 hK10 => ?_)
 refine WC.sr ?_
 refine WL.run tbk 4 hs5 [1, 0] rfl ⟨rfl, rfl, trivial⟩ ?_
 refine WL.call rfl rfl rfl (Run.call Try.call110 rfl rfl rfl) (c_laws_eqCellS _ _ _ _ _ _ _ _ _ (SlF.st0 f_a.Cells hs5) (SlF.st0 f_b.Cells hs5) ?_ ?_) ?_
 · first | assumption | rfl | omega
 · first | assumption | rfl | omega
 rintro _ whs11 ⟨rfl, hs11⟩
 replace hs11 := hs5.call0 hs11
 refine ⟨_, rfl, ?_⟩
 refine WL.run tbk 1 hs11 [] rfl trivial ?_
 refine WL.nil ?_
 refine WC.condF rfl (by simp [e_W, e_H]) ?_
 refine WC.skip ?_
 refine hK10 _ _ ?_
 refine WC.rr tbk hs11 [] rfl trivial ?_
 refine WC.ret ?_
 refine retV1 rfl (resV.tmp rfl) ?_
 refine ⟨congrArg Ending.returned ?_, hs11.nil⟩
 rfl
set_option maxHeartbeats 4000000 in
theorem c_laws_szGrid (a : GridR) (left : Int) (w : World) (f_a : okGridR 9223372036854775807 w a) (h1 : 0 ≤ left) (h2 : left ≤ 1048576) :
    Calls Try.prog 69 #[.agg #[i64 a.W, i64 a.H, .slice a.Cells.A a.Cells.n a.Cells.c], i64 left] w fun e w' => e = .returned (.int .i64 (szR left (totGrid a.dat))) ∧ St w [] [] w' := by
 have nb_a_Cells := f_a.Cells_n
 have nl_a_Cells := f_a.Cells.len
 refine enter (vs := [.agg #[i64 a.W, i64 a.H, .slice a.Cells.A a.Cells.n a.Cells.c], i64 left]) 12 Try.func69 rfl Try.ntmps69 rfl rfl ?_
 have hs1 := St.init w
 refine WC.sr ?_
 refine WL.bx hs1 rfl (fun b2 _ hs3 => ?_)
 refine WL.run tbk 1 hs3 [] rfl trivial ?_
 refine WL.nil ?_
 refine WC.sr ?_
 refine WL.run tbk 3 hs3 [0] rfl ⟨rfl, trivial⟩ ?_
 refine WL.call rfl rfl rfl (Run.call Try.call96 rfl rfl rfl) (c_laws_szCellS _ _ _ _ _ _ (SlF.st0 f_a.Cells hs3) ?_ ?_ ?_) ?_
 · first | assumption | omega
 · first | assumption | omega | exact szR_b (by assumption) (by omega) (by first | assumption | omega)
 · first | assumption | omega
 rintro _ whs4 ⟨rfl, hs4⟩
 replace hs4 := hs3.call0 hs4
 refine ⟨_, rfl, ?_⟩
 refine WL.run tbk 1 hs4 [] rfl trivial ?_
 refine WL.nil ?_
 refine WC.seq (fun K5 hK5 => ?_)
 refine WC.rr tbk hs4 [] rfl trivial ?_
 refine WC.cD rfl (fun qh6 => ?_) (fun qh6 => ?_)
 ·try have soh6 := szR_ok qh6 (by omega)
  try have sbh6 := szR_b qh6 (by omega) (by first | assumption | omega)
  try have snh6 := szR_no qh6
  refine WC.rr tbk hs4 [] rfl trivial ?_
  refine WC.ret ?_
  refine tkR ?_
  clear hK5
  refine retV1 rfl (resV.tmp rfl) ?_
  refine ⟨congrArg Ending.returned ?_, hs4.nil⟩
  simp only [totGrid, GridR.dat] at *; first | (rw [szR_lt (by omega)]; done) | (refine congrArg (Value.int _) ?_; symm; refine (szR_le ?_).trans ?_ <;> omega) | rfl
 ·try have soh6 := szR_ok qh6 (by omega)
  try have sbh6 := szR_b qh6 (by omega) (by first | assumption | omega)
  try have snh6 := szR_no qh6
  refine WC.skip ?_
  refine hK5 _ _ ?_
  refine WC.rr tbk hs4 [] rfl trivial ?_
  refine WC.ret ?_
  refine retV1 rfl (resV.tmp rfl) ?_
  refine ⟨congrArg Ending.returned ?_, hs4.nil⟩
  simp only [totGrid, GridR.dat] at *; first | (rw [szR_lt (by omega)]; done) | (refine congrArg (Value.int _) ?_; symm; refine (szR_le ?_).trans ?_ <;> omega) | rfl
set_option maxHeartbeats 4000000 in
theorem c_laws_toVp (a : VpR) (w : World) (f_a : okVpR 549755813888 w a) :
    Calls Try.prog 54 #[.agg #[i64 a.State, .bool a.Mark, .slice a.Args.A a.Args.n a.Args.c, .slice a.Part.A a.Part.n a.Part.c]] w fun e w' => ∃ r L1, e = .returned (.agg #[i64 r.State, .bool r.Mark, .slice r.Args.A r.Args.n r.Args.c, .slice r.Part.A r.Part.n r.Part.c]) ∧ St w [] L1 w' ∧ ownVpR r L1 ∧ r.dat = a.dat := by
 have nb_a_Args := f_a.Args_n
 have nl_a_Args := f_a.Args.len
 have nb_a_Part := f_a.Part_n
 have nl_a_Part := f_a.Part.len
 refine enter (vs := [.agg #[i64 a.State, .bool a.Mark, .slice a.Args.A a.Args.n a.Args.c, .slice a.Part.A a.Part.n a.Part.c]]) 19 Try.func54 rfl Try.ntmps54 rfl rfl ?_
 have hs1 := St.init w
 refine WC.sr ?_
 refine WL.bx hs1 rfl (fun b2 _ hs3 => ?_)
 refine WL.al hs3 Try.zeroValue40 rfl rfl (fun b4 _ hs5 => ?_)
 refine WL.nil ?_
 refine WC.sr ?_
 refine WL.al hs5 Try.zeroValue40 rfl rfl (fun b6 _ hs7 => ?_)
 refine WL.nil ?_
 refine WC.sr ?_
 refine WL.run tbk 3 hs7 [2] rfl ⟨rfl, trivial⟩ ?_
 refine WL.st tbk hs7 0 rfl rfl (fun _ hs8 => ?_)
 refine WL.nil ?_
 refine WC.sr ?_
 refine WL.run tbk 3 hs8 [2] rfl ⟨rfl, trivial⟩ ?_
 refine WL.st tbk hs8 0 rfl rfl (fun _ hs9 => ?_)
 refine WL.nil ?_
 refine WC.sr ?_
 refine WL.run tbk 2 hs9 [2] rfl ⟨rfl, trivial⟩ ?_
 refine WL.call rfl rfl rfl (Run.call Try.call76 rfl rfl rfl) (c_laws_toIntS _ _ _ _ _ (SlF.st0 f_a.Args hs9) ?_) ?_
 · first | assumption | rfl | omega
 rintro _ whs10 ⟨A11, c12, L113, rfl, hs10, ho14⟩
 replace hs10 := hs9.callF hs10
 refine ⟨_, rfl, ?_⟩
 replace hs10 := St.back [_, _, _] hs10
 refine WL.run tbk 1 hs10 [] rfl trivial ?_
 refine WL.st tbk hs10 0 rfl rfl (fun _ hs15 => ?_)
 refine WL.nil ?_
 refine WC.sr ?_
 refine WL.run tbk 2 hs15 [2] rfl ⟨rfl, trivial⟩ ?_
 refine WL.call rfl rfl rfl (Run.call Try.call77 rfl rfl rfl) (c_laws_toByteS _ _ _ _ _ (SlF.st0 f_a.Part hs15) ?_) ?_
 · first | assumption | rfl | omega
 rintro _ whs16 ⟨A17, c18, L119, rfl, hs16, ho20⟩
 replace hs16 := hs15.callF hs16
 refine ⟨_, rfl, ?_⟩
 replace hs16 := St.back [_, _, _] hs16
 refine WL.run tbk 1 hs16 [] rfl trivial ?_
 refine WL.st tbk hs16 0 rfl rfl (fun _ hs21 => ?_)
 refine WL.nil ?_
 refine WC.sr ?_
 refine WL.run tbk 1 hs21 [0] rfl ⟨rfl, trivial⟩ ?_
 refine WL.st tbk hs21 1 rfl rfl (fun _ hs22 => ?_)
 refine WL.nil ?_
 refine WC.ret ?_
 refine retV1 rfl (resV.cellA tbk hs22 1 rfl rfl rfl rfl) ?_
 obtain ⟨L24, hs23, ho25⟩ := ownVpR.fold ⟨0, false, ⟨_, _, _, _⟩, ⟨_, _, _, _⟩⟩ (St.perm (St.perm hs22 (L' := L119 ++ _) (perm_front (A := [_, _, _]) (List.Perm.refl _))) (L' := L113 ++ _) (perm_front (A := L119) (perm_front (A := [_, _, _]) (List.Perm.refl _)))) ho14 ho20
 have hs26 := (St.perm (St.perm (St.perm hs23 (L' := [_] ++ _) (perm_front (A := L24) (perm_front (A := [_, _]) (List.Perm.refl _)))) (L' := [_] ++ _) (perm_front (A := [_]) (perm_front (A := L24) (perm_front (A := [_]) (List.Perm.refl _))))) (L' := [_] ++ _) (perm_front (A := [_, _]) (perm_front (A := L24) (List.Perm.refl _))))
 refine ⟨⟨a.State, a.Mark, SlD.of ho14, SlD.of ho20⟩, _, rfl, (St.keep1 (St.perm hs26 (L' := L24 ++ _) (perm_front (A := [_, _, _]) (List.Perm.refl _)))), ?_, ?_⟩
 · exact (by exact ho25)
 · exact VpD.ext' rfl rfl rfl rfl
set_option maxHeartbeats 4000000 in
theorem c_laws_eqVp (a : VpR) (b : VpR) (w : World) (f_a : okVpR 549755813888 w a) (f_b : okVpR 549755813888 w b) (hab : a.dat = b.dat) :
    Calls Try.prog 58 #[.agg #[i64 a.State, .bool a.Mark, .slice a.Args.A a.Args.n a.Args.c, .slice a.Part.A a.Part.n a.Part.c], .agg #[i64 b.State, .bool b.Mark, .slice b.Args.A b.Args.n b.Args.c, .slice b.Part.A b.Part.n b.Part.c]] w fun e w' => e = .returned (.bool true) ∧ St w [] [] w' := by
 have nb_a_Args := f_a.Args_n
 have nl_a_Args := f_a.Args.len
 have nb_a_Part := f_a.Part_n
 have nl_a_Part := f_a.Part.len
 have nb_b_Args := f_b.Args_n
 have nl_b_Args := f_b.Args.len
 have nb_b_Part := f_b.Part_n
 have nl_b_Part := f_b.Part.len
 have e_State : a.State = b.State := congrArg (fun d : VpD => d.State) hab
 have e_Mark : a.Mark = b.Mark := congrArg (fun d : VpD => d.Mark) hab
 have e_Args : a.Args.xs = b.Args.xs := congrArg (fun d : VpD => d.Args) hab
 have e_Part : a.Part.xs = b.Part.xs := congrArg (fun d : VpD => d.Part) hab
 refine enter (vs := [.agg #[i64 a.State, .bool a.Mark, .slice a.Args.A a.Args.n a.Args.c, .slice a.Part.A a.Part.n a.Part.c], .agg #[i64 b.State, .bool b.Mark, .slice b.Args.A b.Args.n b.Args.c, .slice b.Part.A b.Part.n b.Part.c]]) 27 Try.func58 rfl Try.ntmps58 rfl rfl ?_
 have hs1 := St.init w
 refine WC.sr ?_
 refine WL.bx hs1 rfl (fun b2 _ hs3 => ?_)
 refine WL.bx hs3 rfl (fun b4 _ hs5 => ?_)
 refine WL.run tbk 1 hs5 [] rfl trivial ?_
 refine WL.nil ?_
 refine WC.seq (fun K6 hK6 => ?_)
 refine WC.rr tbk hs5 [1, 0] rfl ⟨rfl, rfl, trivial⟩ ?_
 refine WC.condF rfl (by simp [e_State, e_Mark]) ?_
 refine WC.skip ?_
 refine hK6 _ _ ?_
 refine WC.seq (fun K8 hK8 => ?_)
 refine WC.rr tbk hs5 [1, 0] rfl ⟨rfl, rfl, trivial⟩ ?_
 refine WC.condF rfl (by simp [e_State, e_Mark]) ?_
 refine WC.skip ?_
 refine hK8 _ _ ?_
 refine WC.seq (fun K10 hK10 => ?_)
 refine WC.sr ?_
 refine WL.run tbk 4 hs5 [1, 0] rfl ⟨rfl, rfl, trivial⟩ ?_
 refine WL.call rfl rfl rfl (Run.call Try.call88 rfl rfl rfl) (c_laws_eqIntS _ _ _ _ _ _ _ _ _ (SlF.st0 f_a.Args hs5) (SlF.st0 f_b.Args hs5) ?_ ?_) ?_
 · first | assumption | rfl | omega
 · first | assumption | rfl | omega
 rintro _ whs11 ⟨rfl, hs11⟩
 replace hs11 := hs5.call0 hs11
 refine ⟨_, rfl, ?_⟩
 refine WL.run tbk 1 hs11 [] rfl trivial ?_
 refine WL.nil ?_
 refine WC.condF rfl (by simp [e_State, e_Mark]) ?_
 refine WC.skip ?_
 refine hK10 _ _ ?_
 refine WC.seq (fun K13 hK13 => ?_)
 refine WC.sr ?_
 refine WL.run tbk 4 hs11 [1, 0] rfl ⟨rfl, rfl, trivial⟩ ?_
 refine WL.call rfl rfl rfl (Run.call Try.call89 rfl rfl rfl) (c_laws_eqByteS _ _ _ _ _ _ _ _ _ (SlF.st0 f_a.Part hs11) (SlF.st0 f_b.Part hs11) ?_ ?_) ?_
 · first | assumption | rfl | omega
 · first | assumption | rfl | omega
 rintro _ whs14 ⟨rfl, hs14⟩
 replace hs14 := hs11.call0 hs14
 refine ⟨_, rfl, ?_⟩
 refine WL.run tbk 1 hs14 [] rfl trivial ?_
 refine WL.nil ?_
 refine WC.condF rfl (by simp [e_State, e_Mark]) ?_
 refine WC.skip ?_
 refine hK13 _ _ ?_
 refine WC.rr tbk hs14 [] rfl trivial ?_
 refine WC.ret ?_
 refine retV1 rfl (resV.tmp rfl) ?_
 refine ⟨congrArg Ending.returned ?_, hs14.nil⟩
 rfl
set_option maxHeartbeats 4000000 in
theorem c_laws_szVp (a : VpR) (left : Int) (w : World) (f_a : okVpR 9223372036854775807 w a) (h1 : 0 ≤ left) (h2 : left ≤ 1048576) :
    Calls Try.prog 50 #[.agg #[i64 a.State, .bool a.Mark, .slice a.Args.A a.Args.n a.Args.c, .slice a.Part.A a.Part.n a.Part.c], i64 left] w fun e w' => e = .returned (.int .i64 (szR left (totVp a.dat))) ∧ St w [] [] w' := by
 have nb_a_Args := f_a.Args_n
 have nl_a_Args := f_a.Args.len
 have nb_a_Part := f_a.Part_n
 have nl_a_Part := f_a.Part.len
 refine enter (vs := [.agg #[i64 a.State, .bool a.Mark, .slice a.Args.A a.Args.n a.Args.c, .slice a.Part.A a.Part.n a.Part.c], i64 left]) 18 Try.func50 rfl Try.ntmps50 rfl rfl ?_
 have hs1 := St.init w
 refine WC.sr ?_
 refine WL.bx hs1 rfl (fun b2 _ hs3 => ?_)
 refine WL.run tbk 1 hs3 [] rfl trivial ?_
 refine WL.nil ?_
 refine WC.sr ?_
 refine WL.run tbk 3 hs3 [0] rfl ⟨rfl, trivial⟩ ?_
 refine WL.call rfl rfl rfl (Run.call Try.call67 rfl rfl rfl) (c_laws_szIntS _ _ _ _ _ _ (SlF.st0 f_a.Args hs3) ?_ ?_ ?_) ?_
 · first | assumption | omega
 · first | assumption | omega | exact szR_b (by assumption) (by omega) (by first | assumption | omega)
 · first | assumption | omega
 rintro _ whs4 ⟨rfl, hs4⟩
 replace hs4 := hs3.call0 hs4
 refine ⟨_, rfl, ?_⟩
 refine WL.run tbk 1 hs4 [] rfl trivial ?_
 refine WL.nil ?_
 refine WC.seq (fun K5 hK5 => ?_)
 refine WC.rr tbk hs4 [] rfl trivial ?_
 refine WC.cD rfl (fun qh6 => ?_) (fun qh6 => ?_)
 ·try have soh6 := szR_ok qh6 (by omega)
  try have sbh6 := szR_b qh6 (by omega) (by first | assumption | omega)
  try have snh6 := szR_no qh6
  refine WC.rr tbk hs4 [] rfl trivial ?_
  refine WC.ret ?_
  refine tkR ?_
  clear hK5
  refine retV1 rfl (resV.tmp rfl) ?_
  refine ⟨congrArg Ending.returned ?_, hs4.nil⟩
  simp only [totVp, VpR.dat] at *; first | (rw [szR_lt (by omega)]; done) | (refine congrArg (Value.int _) ?_; symm; refine (szR_le ?_).trans ?_ <;> omega) | rfl
 ·try have soh6 := szR_ok qh6 (by omega)
  try have sbh6 := szR_b qh6 (by omega) (by first | assumption | omega)
  try have snh6 := szR_no qh6
  refine WC.skip ?_
  refine hK5 _ _ ?_
  refine WC.sr ?_
  refine WL.run tbk 3 hs4 [0] rfl ⟨rfl, trivial⟩ ?_
  refine WL.call rfl rfl rfl (Run.call Try.call68 rfl rfl rfl) (c_laws_szByteS _ _ _ _ _ _ (SlF.st0 f_a.Part hs4) ?_ ?_ ?_) ?_
  · first | assumption | omega
  · first | assumption | omega | exact szR_b (by assumption) (by omega) (by first | assumption | omega)
  · first | assumption | omega
  rintro _ whs7 ⟨rfl, hs7⟩
  replace hs7 := hs4.call0 hs7
  refine ⟨_, rfl, ?_⟩
  refine WL.run tbk 1 hs7 [] rfl trivial ?_
  refine WL.nil ?_
  refine WC.seq (fun K8 hK8 => ?_)
  refine WC.rr tbk hs7 [] rfl trivial ?_
  refine WC.cD rfl (fun qh9 => ?_) (fun qh9 => ?_)
  ·try have soh9 := szR_ok qh9 (by omega)
   try have sbh9 := szR_b qh9 (by omega) (by first | assumption | omega)
   try have snh9 := szR_no qh9
   refine WC.rr tbk hs7 [] rfl trivial ?_
   refine WC.ret ?_
   refine tkR ?_
   clear hK8
   refine retV1 rfl (resV.tmp rfl) ?_
   refine ⟨congrArg Ending.returned ?_, hs7.nil⟩
   simp only [totVp, VpR.dat] at *; first | (rw [szR_lt (by omega)]; done) | (refine congrArg (Value.int _) ?_; symm; refine (szR_le ?_).trans ?_ <;> omega) | rfl
  ·try have soh9 := szR_ok qh9 (by omega)
   try have sbh9 := szR_b qh9 (by omega) (by first | assumption | omega)
   try have snh9 := szR_no qh9
   refine WC.skip ?_
   refine hK8 _ _ ?_
   refine WC.rr tbk hs7 [] rfl trivial ?_
   refine WC.ret ?_
   refine retV1 rfl (resV.tmp rfl) ?_
   refine ⟨congrArg Ending.returned ?_, hs7.nil⟩
   simp only [totVp, VpR.dat] at *; first | (rw [szR_lt (by omega)]; done) | (refine congrArg (Value.int _) ?_; symm; refine (szR_le ?_).trans ?_ <;> omega) | rfl
set_option maxHeartbeats 4000000 in
theorem c_laws_toRow (a : RowR) (w : World) (f_a : okRowR 549755813888 w a) :
    Calls Try.prog 101 #[.agg #[.slice a.Cells.A a.Cells.n a.Cells.c]] w fun e w' => ∃ r L1, e = .returned (.agg #[.slice r.Cells.A r.Cells.n r.Cells.c]) ∧ St w [] L1 w' ∧ ownRowR r L1 ∧ r.dat = a.dat := by
 have nb_a_Cells := f_a.Cells_n
 have nl_a_Cells := f_a.Cells.len
 refine enter (vs := [.agg #[.slice a.Cells.A a.Cells.n a.Cells.c]]) 9 Try.func101 rfl Try.ntmps101 rfl rfl ?_
 have hs1 := St.init w
 refine WC.sr ?_
 refine WL.bx hs1 rfl (fun b2 _ hs3 => ?_)
 refine WL.al hs3 Try.zeroValue125 rfl rfl (fun b4 _ hs5 => ?_)
 refine WL.nil ?_
 refine WC.sr ?_
 refine WL.al hs5 Try.zeroValue125 rfl rfl (fun b6 _ hs7 => ?_)
 refine WL.nil ?_
 refine WC.sr ?_
 refine WL.run tbk 2 hs7 [2] rfl ⟨rfl, trivial⟩ ?_
 refine WL.call rfl rfl rfl (Run.call Try.call100 rfl rfl rfl) (c_laws_toCellS _ _ _ _ _ (SlF.st0 f_a.Cells hs7) ?_) ?_
 · first | assumption | rfl | omega
 rintro _ whs8 ⟨A9, c10, L111, rfl, hs8, ho12⟩
 replace hs8 := hs7.callF hs8
 refine ⟨_, rfl, ?_⟩
 replace hs8 := St.back [_, _, _] hs8
 refine WL.run tbk 1 hs8 [] rfl trivial ?_
 refine WL.st tbk hs8 0 rfl rfl (fun _ hs13 => ?_)
 refine WL.nil ?_
 refine WC.sr ?_
 refine WL.run tbk 1 hs13 [0] rfl ⟨rfl, trivial⟩ ?_
 refine WL.st tbk hs13 1 rfl rfl (fun _ hs14 => ?_)
 refine WL.nil ?_
 refine WC.ret ?_
 refine retV1 rfl (resV.cellA tbk hs14 1 rfl rfl rfl rfl) ?_
 refine ⟨⟨SlD.of ho12⟩, _, rfl, (St.keep1 (St.perm hs14 (L' := L111 ++ _) (perm_front (A := [_, _, _]) (List.Perm.refl _)))), ?_, ?_⟩
 · exact ho12
 · exact RowD.ext' rfl
set_option maxHeartbeats 4000000 in
theorem c_laws_eqRow (a : RowR) (b : RowR) (w : World) (f_a : okRowR 549755813888 w a) (f_b : okRowR 549755813888 w b) (hab : a.dat = b.dat) :
    Calls Try.prog 111 #[.agg #[.slice a.Cells.A a.Cells.n a.Cells.c], .agg #[.slice b.Cells.A b.Cells.n b.Cells.c]] w fun e w' => e = .returned (.bool true) ∧ St w [] [] w' := by
 have nb_a_Cells := f_a.Cells_n
 have nl_a_Cells := f_a.Cells.len
 have nb_b_Cells := f_b.Cells_n
 have nl_b_Cells := f_b.Cells.len
 have e_Cells : a.Cells.xs = b.Cells.xs := congrArg (fun d : RowD => d.Cells) hab
 refine enter (vs := [.agg #[.slice a.Cells.A a.Cells.n a.Cells.c], .agg #[.slice b.Cells.A b.Cells.n b.Cells.c]]) 11 Try.func111 rfl Try.ntmps111 rfl rfl ?_
 have hs1 := St.init w
 refine WC.sr ?_
 refine WL.bx hs1 rfl (fun b2 _ hs3 => ?_)
 refine WL.bx hs3 rfl (fun b4 _ hs5 => ?_)
 refine WL.run tbk 1 hs5 [] rfl trivial ?_
 refine WL.nil ?_
 refine WC.seq (fun K6 hK6 => ?_)
 refine WC.sr ?_
 refine WL.run tbk 4 hs5 [1, 0] rfl ⟨rfl, rfl, trivial⟩ ?_
 refine WL.call rfl rfl rfl (Run.call Try.call110 rfl rfl rfl) (c_laws_eqCellS _ _ _ _ _ _ _ _ _ (SlF.st0 f_a.Cells hs5) (SlF.st0 f_b.Cells hs5) ?_ ?_) ?_
 · first | assumption | rfl | omega
 · first | assumption | rfl | omega
 rintro _ whs7 ⟨rfl, hs7⟩
 replace hs7 := hs5.call0 hs7
 refine ⟨_, rfl, ?_⟩
 refine WL.run tbk 1 hs7 [] rfl trivial ?_
 refine WL.nil ?_
 refine WC.condF rfl (by simp) ?_
 refine WC.skip ?_
 refine hK6 _ _ ?_
 refine WC.rr tbk hs7 [] rfl trivial ?_
 refine WC.ret ?_
 refine retV1 rfl (resV.tmp rfl) ?_
 refine ⟨congrArg Ending.returned ?_, hs7.nil⟩
 rfl
set_option maxHeartbeats 4000000 in
theorem c_laws_szRow (a : RowR) (left : Int) (w : World) (f_a : okRowR 9223372036854775807 w a) (h1 : 0 ≤ left) (h2 : left ≤ 1048576) :
    Calls Try.prog 97 #[.agg #[.slice a.Cells.A a.Cells.n a.Cells.c], i64 left] w fun e w' => e = .returned (.int .i64 (szR left (totRow a.dat))) ∧ St w [] [] w' := by
 have nb_a_Cells := f_a.Cells_n
 have nl_a_Cells := f_a.Cells.len
 refine enter (vs := [.agg #[.slice a.Cells.A a.Cells.n a.Cells.c], i64 left]) 12 Try.func97 rfl Try.ntmps97 rfl rfl ?_
 have hs1 := St.init w
 refine WC.sr ?_
 refine WL.bx hs1 rfl (fun b2 _ hs3 => ?_)
 refine WL.run tbk 1 hs3 [] rfl trivial ?_
 refine WL.nil ?_
 refine WC.sr ?_
 refine WL.run tbk 3 hs3 [0] rfl ⟨rfl, trivial⟩ ?_
 refine WL.call rfl rfl rfl (Run.call Try.call96 rfl rfl rfl) (c_laws_szCellS _ _ _ _ _ _ (SlF.st0 f_a.Cells hs3) ?_ ?_ ?_) ?_
 · first | assumption | omega
 · first | assumption | omega | exact szR_b (by assumption) (by omega) (by first | assumption | omega)
 · first | assumption | omega
 rintro _ whs4 ⟨rfl, hs4⟩
 replace hs4 := hs3.call0 hs4
 refine ⟨_, rfl, ?_⟩
 refine WL.run tbk 1 hs4 [] rfl trivial ?_
 refine WL.nil ?_
 refine WC.seq (fun K5 hK5 => ?_)
 refine WC.rr tbk hs4 [] rfl trivial ?_
 refine WC.cD rfl (fun qh6 => ?_) (fun qh6 => ?_)
 ·try have soh6 := szR_ok qh6 (by omega)
  try have sbh6 := szR_b qh6 (by omega) (by first | assumption | omega)
  try have snh6 := szR_no qh6
  refine WC.rr tbk hs4 [] rfl trivial ?_
  refine WC.ret ?_
  refine tkR ?_
  clear hK5
  refine retV1 rfl (resV.tmp rfl) ?_
  refine ⟨congrArg Ending.returned ?_, hs4.nil⟩
  simp only [totRow, RowR.dat] at *; first | (rw [szR_lt (by omega)]; done) | (refine congrArg (Value.int _) ?_; symm; refine (szR_le ?_).trans ?_ <;> omega) | rfl
 ·try have soh6 := szR_ok qh6 (by omega)
  try have sbh6 := szR_b qh6 (by omega) (by first | assumption | omega)
  try have snh6 := szR_no qh6
  refine WC.skip ?_
  refine hK5 _ _ ?_
  refine WC.rr tbk hs4 [] rfl trivial ?_
  refine WC.ret ?_
  refine retV1 rfl (resV.tmp rfl) ?_
  refine ⟨congrArg Ending.returned ?_, hs4.nil⟩
  simp only [totRow, RowR.dat] at *; first | (rw [szR_lt (by omega)]; done) | (refine congrArg (Value.int _) ?_; symm; refine (szR_le ?_).trans ?_ <;> omega) | rfl
theorem c_laws_szRowS (A_a : Option Addr) (n_a c_a : Nat) (a : List RowR) (left : Int) (w : World) (f_a : SlN encRowR (okRowR 9223372036854775807) w A_a n_a a) (h1 : 0 ≤ left) (h2 : left ≤ 1048576) (h3 : n_a ≤ 9223372036854775807) :
    Calls Try.prog 70 #[.slice A_a n_a c_a, i64 left] w fun e w' => e = .returned (.int .i64 (szR left (tots totRow (a.map RowR.dat)))) ∧ St w [] [] w' := by
 have hl := f_a.sl.len
 have hT : (tots totRow (a.map RowR.dat) : Int) = n_a + (a.map (fun x => totRow (RowR.dat x))).sum := by rw [tots_map, hl]; omega
 refine enter (vs := [.slice A_a n_a c_a, i64 left]) 27 Try.func70 rfl Try.ntmps70 rfl rfl ?_
 have hs1 := St.init w
 refine WC.rr tbk hs1 [] rfl trivial ?_
 refine WC.rr tbk hs1 [] rfl ⟨by omega, trivial⟩ ?_
 refine WC.seq (fun K2 hK2 => ?_)
 refine WC.rr tbk hs1 [] rfl trivial ?_
 refine WC.cD rfl (fun qh3 => ?_) (fun qh3 => ?_)
 ·refine WC.rr tbk hs1 [] rfl trivial ?_
  refine WC.ret ?_
  refine tkR ?_
  clear hK2
  refine retV1 rfl (resV.tmp rfl) ?_
  refine ⟨congrArg Ending.returned ?_, hs1.nil⟩
  rw [szR_lt (by omega)]
 ·refine WC.skip ?_
  refine hK2 _ _ ?_
  refine WC.seq (fun K4 hK4 => ?_)
  refine WC.rr tbk hs1 [] rfl trivial ?_
  refine WC.block ?_
  refine WC.loopS [(0, _), (6, _), (7, _), (8, _), (9, _), (10, _), (11, _)] ⟨rfl, rfl, rfl, rfl, rfl, rfl, rfl, trivial⟩ hs1 (fun k_ f w' => ∃ (i : Nat) (q : Int), k_ = n_a - i ∧ (i ≤ n_a) ∧ (0 ≤ q) ∧ (q + n_a + ((a.take i).map (fun x => totRow (RowR.dat x))).sum = left) ∧ Sub [(5, .int .i64 i), (1, .int .i64 q)] f) ((fun (i : Nat) (q : Int) => n_a - i) (0) ((left - n_a))) ?_ ?_
  ·refine ⟨0, (left - n_a), rfl, ?_, ?_, ?_, ⟨rfl, rfl, trivial⟩⟩
   · exact Nat.zero_le _
   · omega
   · simp
  ·clear hs1
   rintro _ f w ⟨i, q, rfl, p0, p1, p2, hG⟩ hF hs5
   refine WC.sub _ (hG.app hF) ?_
   clear hG hF
   refine WC.seq (fun K6 hK6 => ?_)
   refine WC.rr tbk hs5 [] rfl trivial ?_
   refine WC.cD rfl (fun qh7 => ?_) (fun qh7 => ?_)
   ·have hs1 := sum_take (F := encRowR) (f := (fun x => totRow (RowR.dat x))) (l := a) (i := i) (by omega)
    have hs2 := sum_take_le (f := (fun x => totRow (RowR.dat x))) a (i + 1)
    refine WC.skip ?_
    refine hK6 _ _ ?_
    refine WC.seq (fun K8 hK8 => ?_)
    refine WC.block ?_
    refine WC.sr ?_
    refine WL.run tbk 2 hs5 [] rfl trivial ?_
    refine WL.val rfl rfl rfl (Run.idxN Try.runUnderlying31 Try.sizeOf148 rfl rfl rfl ?_ ?_ ?_) ?_
    · exact SlF.some_ (SlF.st0 f_a.sl hs5)
    · omega
    · omega
    refine WL.val rfl rfl rfl (Run.loadA Try.isAgg148 Try.sizeOf148 rfl rfl (SlF.whole (SlF.st0 f_a.sl hs5) ?_)) ?_
    · omega
    refine WL.run tbk 1 hs5 [] rfl trivial ?_
    refine WL.call rfl rfl rfl (Run.call Try.call97 rfl rfl rfl) (c_laws_szRow (gat encRowR a i) _ _ (okRowR.st0 (SlN.nth f_a (by omega)) hs5) ?_ ?_) ?_
    · first | assumption | omega
    · first | assumption | omega | exact szR_b (by assumption) (by omega) (by first | assumption | omega)
    rintro _ whs9 ⟨rfl, hs9⟩
    replace hs9 := hs5.call0 hs9
    refine ⟨_, rfl, ?_⟩
    refine WL.run tbk 1 hs9 [] rfl trivial ?_
    refine WL.nil ?_
    refine WC.rr tbk hs9 [] rfl trivial ?_
    refine WC.cD rfl (fun qh10 => ?_) (fun qh10 => ?_)
    ·refine WC.rr tbk hs9 [] rfl trivial ?_
     refine WC.ret ?_
     refine ibR (tkR (tkR (ibR (tkR ?_))))
     clear hK8 hK4
     refine retV1 rfl (resV.tmp rfl) ?_
     refine ⟨congrArg Ending.returned ?_, hs9.nil⟩
     have h9 := szR_no qh10
     rw [szR_lt (by omega)]
    ·refine WC.skip ?_
     refine hK8 _ _ ?_
     refine WC.region ?_
     refine WL.run tbk 3 hs9 [] rfl ⟨by omega, trivial⟩ ?_
     refine WL.nil ?_
     refine tkN ?_
     refine ⟨⟨rfl, rfl, rfl, rfl, rfl, rfl, rfl, trivial⟩, hs9, _, ?_, i + 1, _, rfl, ?_, ?_, ?_, ⟨rfl, rfl, trivial⟩⟩
     · omega
     · omega
     · omega
     · have h9 := szR_ok qh10 (Int.natCast_nonneg _); omega
   ·refine WC.exit ?_
    refine hK4 _ _ ?_
    refine WC.rr tbk hs5 [] rfl trivial ?_
    refine WC.ret ?_
    refine retV1 rfl (resV.tmp rfl) ?_
    refine ⟨congrArg Ending.returned ?_, hs5.nil⟩
    have h9 : a.take i = a := List.take_of_length_le (by omega)
    rw [h9] at p2
    rw [szR_le (by omega)]
    congr 1; omega
theorem c_laws_eqRowS (A_a : Option Addr) (n_a c_a : Nat) (a : List RowR) (A_b : Option Addr) (n_b c_b : Nat) (b : List RowR) (w : World) (f_a : SlN encRowR (okRowR 549755813888) w A_a n_a a) (f_b : SlN encRowR (okRowR 549755813888) w A_b n_b b) (hn : n_a ≤ 549755813888) (hab : a.map RowR.dat = b.map RowR.dat) :
    Calls Try.prog 92 #[.slice A_a n_a c_a, .slice A_b n_b c_b] w fun e w' => e = .returned (.bool true) ∧ St w [] [] w' := by
 have hla := f_a.sl.len
 obtain rfl : n_a = n_b := by have h9 := congrArg List.length hab; simp only [List.length_map] at h9; rw [← hla, h9]; exact f_b.sl.len
 refine enter (vs := [.slice A_a n_a c_a, .slice A_b n_a c_b]) 27 Try.func92 rfl Try.ntmps92 rfl rfl ?_
 have hs1 := St.init w
 refine WC.rr tbk hs1 [] rfl trivial ?_
 refine WC.seq (fun K2 hK2 => ?_)
 refine WC.rr tbk hs1 [] rfl trivial ?_
 refine WC.condF rfl (by simp) ?_
 refine WC.skip ?_
 refine hK2 _ _ ?_
 refine WC.seq (fun K4 hK4 => ?_)
 refine WC.rr tbk hs1 [] rfl trivial ?_
 refine WC.block ?_
 refine WC.loopS [(0, _), (1, _), (6, _), (7, _), (8, _), (9, _), (10, _)] ⟨rfl, rfl, rfl, rfl, rfl, rfl, rfl, trivial⟩ hs1 (fun k_ f w' => ∃ (i : Nat), k_ = n_a - i ∧ (i ≤ n_a) ∧ Sub [(5, .int .i64 i)] f) ((fun (i : Nat) => n_a - i) (0)) ?_ ?_
 ·refine ⟨0, rfl, ?_, ⟨rfl, trivial⟩⟩
  · exact Nat.zero_le _
 ·clear hs1
  rintro _ f w ⟨i, rfl, p0, hG⟩ hF hs5
  refine WC.sub _ (hG.app hF) ?_
  clear hG hF
  refine WC.seq (fun K6 hK6 => ?_)
  refine WC.rr tbk hs5 [] rfl trivial ?_
  refine WC.cD rfl (fun qh7 => ?_) (fun qh7 => ?_)
  ·have hab_ := gat_dat (F := encRowR) (i := i) hab (by omega)
   refine WC.skip ?_
   refine hK6 _ _ ?_
   refine WC.seq (fun K8 hK8 => ?_)
   refine WC.block ?_
   refine WC.sq hs5 mixed (by kernel_rfl) ?_
   refine WQ.run tbk 2 [] rfl trivial ?_
   refine WQ.val rfl rfl rfl (fun w_ hs_ => (Run.idxN Try.runUnderlying45 Try.sizeOf125 rfl rfl rfl ?_ ?_ ?_)) ?_
   · exact SlF.some_ (SlF.st0 f_a.sl (hs_ : St _ _ _ _))
   · omega
   · omega
   refine WQ.val rfl rfl rfl (fun w_ hs_ => (Run.loadA Try.isAgg125 Try.sizeOf125 rfl rfl (SlF.whole (SlF.st0 f_a.sl (hs_ : St _ _ _ _)) ?_))) ?_
   · omega
   refine WQ.run tbk 2 [] rfl trivial ?_
   refine WQ.val rfl rfl rfl (fun w_ hs_ => (Run.idxN Try.runUnderlying45 Try.sizeOf125 rfl rfl rfl ?_ ?_ ?_)) ?_
   · exact SlF.some_ (SlF.st0 f_b.sl (hs_ : St _ _ _ _))
   · omega
   · omega
   refine WQ.val rfl rfl rfl (fun w_ hs_ => (Run.loadA Try.isAgg125 Try.sizeOf125 rfl rfl (SlF.whole (SlF.st0 f_b.sl (hs_ : St _ _ _ _)) ?_))) ?_
   · omega
   refine WQ.call rfl rfl rfl (fun w_ hs_ => (Run.call Try.call111 rfl rfl rfl)) (fun w_ hs_ => (c_laws_eqRow (gat encRowR a i) (gat encRowR b i) _ (okRowR.st0 (SlN.nth f_a (by omega)) (hs_ : St _ _ _ _)) (okRowR.st0 (SlN.nth f_b (by omega)) (hs_ : St _ _ _ _)) ?_).mono fun e_ w_ h_ => ⟨h_.1, (hs_ : St _ _ _ _).call0 h_.2⟩) ?_
   · first | assumption | rfl | omega
   refine WQ.run tbk 1 [] rfl trivial ?_
   refine WQ.nil (fun _ (hs9 : St _ _ _ _) => ?_)
   refine WC.condF rfl (by simp) ?_
   refine WC.skip ?_
   refine hK8 _ _ ?_
   refine WC.region ?_
   refine WL.run tbk 3 hs9 [] rfl ⟨by omega, trivial⟩ ?_
   refine WL.nil ?_
   refine tkN ?_
   refine ⟨⟨rfl, rfl, rfl, rfl, rfl, rfl, rfl, trivial⟩, hs9, _, ?_, i + 1, rfl, ?_, ⟨rfl, trivial⟩⟩
   · omega
   · omega
  ·refine WC.exit ?_
   refine hK4 _ _ ?_
   refine WC.rr tbk hs5 [] rfl trivial ?_
   refine WC.ret ?_
   refine retV1 rfl (resV.tmp rfl) ?_
   refine ⟨congrArg Ending.returned ?_, hs5.nil⟩
   rfl
theorem c_laws_toRowS (A_a : Option Addr) (n_a c_a : Nat) (a : List RowR) (w : World) (f_a : SlN encRowR (okRowR 549755813888) w A_a n_a a) (hn : n_a ≤ 549755813888) :
    Calls Try.prog 80 #[.slice A_a n_a c_a] w fun e w' => ∃ A c xs L1, e = .returned (.slice A n_a c) ∧ St w [] L1 w' ∧ OwnN encRowR ownRowR 125 (.slice A n_a c) xs L1 ∧ xs.map RowR.dat = a.map RowR.dat := by
 have hl := f_a.sl.len
 refine enter (vs := [.slice A_a n_a c_a]) 23 Try.func80 rfl Try.ntmps80 rfl rfl ?_
 have hs1 := St.init w
 refine WC.rr tbk hs1 [] rfl trivial ?_
 refine WC.sr ?_
 refine WL.run tbk 2 hs1 [] rfl trivial ?_
 refine WL.makeF (F := encRowR) hs1 Try.underlying45 info_125 rfl rfl rfl rfl rfl rfl rfl rfl rfl ?_ ?_ (fun A5 c6 L2 whs3 hs3 ho4 => ?_)
 · have e_ : Try.t125.bytes = 24 := rfl
   rw [e_]; omega
 · omega
 obtain ⟨L7, hs8, ho9⟩ := OwnN.new (own := ownRowR) hs3 ho4 (OwnF.nil _ _)
 refine WL.run tbk 1 hs8 [] rfl trivial ?_
 refine WL.nil ?_
 refine WC.seq (fun K10 hK10 => ?_)
 refine WC.rr tbk hs8 [] rfl trivial ?_
 refine WC.block ?_
 refine WC.loopO [(0, _), (2, _), (5, _), (6, _), (7, _)] ⟨rfl, rfl, rfl, rfl, rfl, trivial⟩ hs8 (fun k_ f L_ => ∃ (i : Nat) (ys : List RowR) (A11 : Option Addr) (c12 : Nat), k_ = n_a - i ∧ (i ≤ n_a) ∧ (ys.length = i) ∧ (ys.map RowR.dat = (a.take i).map RowR.dat) ∧ OwnN encRowR ownRowR 125 (.slice A11 (n_a) c12) (ys ++ List.replicate (n_a - i) encRowR.dflt) L_ ∧ Sub [(3, .slice A11 (n_a) c12), (4, .int .i64 i)] f) (((fun (i : Nat) (ys : List RowR) => n_a - i) (0) ([]))) ?_ ?_
 ·refine ⟨0, [], _, _, rfl, ?_, ?_, ?_, (by simpa using ho9), ⟨rfl, rfl, trivial⟩⟩
  · exact Nat.zero_le _
  · rfl
  · rfl
 ·clear hs8
  rintro _ f w L13 ⟨i, ys, A11, c12, rfl, p0, p1, p2, ho14, hG⟩ hF hs15
  refine WC.sub _ (hG.app hF) ?_
  clear hG hF
  have hlen : (ys ++ List.replicate (n_a - i) encRowR.dflt).length = n_a := by simp; omega
  refine WC.seq (fun K16 hK16 => ?_)
  refine WC.rr tbk hs15 [] rfl trivial ?_
  refine WC.cond rfl (fun h17 => ?_) (fun h17 => ?_)
  ·have qh17 := h17
   try simp only [bf, within_iff, within_not] at qh17
   refine WC.skip ?_
   refine hK16 _ _ ?_
   refine WC.seq (fun K18 hK18 => ?_)
   refine WC.block ?_
   refine WC.region ?_
   refine WL.run tbk 4 hs15 [] rfl trivial ?_
   refine WL.val rfl rfl rfl (Run.idxN Try.runUnderlying31 Try.sizeOf148 rfl rfl rfl ?_ ?_ ?_) ?_
   · exact SlF.some_ (SlF.st0 f_a.sl hs15)
   · omega
   · omega
   refine WL.val rfl rfl rfl (Run.loadA Try.isAgg148 Try.sizeOf148 rfl rfl (SlF.whole (SlF.st0 f_a.sl hs15) ?_)) ?_
   · omega
   refine WL.call rfl rfl rfl (Run.call Try.call101 rfl rfl rfl) (c_laws_toRow (gat encRowR a i) _ (okRowR.st0 (SlN.nth f_a (by omega)) hs15)) ?_
   rintro _ whs19 ⟨r20, L121, rfl, hs19, ho22, hd23⟩
   replace hs19 := hs15.callF hs19
   refine ⟨_, rfl, ?_⟩
   refine WL.val rfl rfl rfl (Run.idxN Try.runUnderlying45 Try.sizeOf125 rfl rfl rfl ?_ ?_ ?_) ?_
   · exact SlF.some_ (OwnN.sl ho14 (fun p_ hp_ => (hs19.own p_ (List.mem_append_right _ (List.mem_append_left _ hp_))).1))
   · omega
   · omega
   obtain ⟨L24, L25, hs28, ho26, ho27⟩ := OwnN.open_ (St.perm hs19 (L' := L13 ++ _) (perm_front (A := L121) (List.Perm.refl _))) ho14
   refine WL.storeF1 (x' := r20) hs28 ho26 Try.sizeOf125 rfl rfl rfl rfl rfl rfl rfl rfl rfl ?_ rfl (fun L29 whs30 hs30 ho31 _ => ?_)
   · omega
   obtain ⟨L32, hs34, hb33⟩ := Bag.replace (r := r20) (i := i) (St.perm (St.perm hs30 (L' := L121 ++ _) (perm_front (A := L29) (perm_front (A := L25) (List.Perm.refl _)))) (L' := L25 ++ _) (perm_front (A := L121) (perm_front (A := L29) (List.Perm.refl _)))) ho27 (by omega) ho22
   refine WL.nil ?_
   refine hK18 _ _ ?_
   refine WC.region ?_
   refine WL.run tbk 3 hs34 [] rfl ⟨by omega, trivial⟩ ?_
   refine WL.nil ?_
   refine tkN ?_
   obtain ⟨L36, hs35, ho37⟩ := OwnN.fold (St.perm hs34 (L' := L29 ++ _) (perm_front (A := L32) (List.Perm.refl _))) ho31 hb33
   rw [set_at p1 (by omega)] at ho37
   refine ⟨⟨rfl, rfl, rfl, rfl, rfl, trivial⟩, _, hs35, _, ?_, i + 1, (ys ++ [r20]), _, _, rfl, ?_, ?_, ?_, ho37, ⟨rfl, rfl, trivial⟩⟩
   · omega
   · omega
   · simp; omega
   · rw [List.map_append, p2, map_take_succ (F := encRowR) (by omega)]; congr 1 <;> simp only [List.map_cons, List.map_nil] <;> congr 1 <;> assumption
  ·have qh17 := h17
   try simp only [bf, within_iff, within_not] at qh17
   refine WC.exit ?_
   refine hK10 _ _ ?_
   refine WC.rr tbk hs15 [] rfl trivial ?_
   refine WC.ret ?_
   refine retV1 rfl (resV.tmp rfl) ?_
   have hi_ : i = n_a := by omega
   subst hi_
   have hx_ := ho14
   simp only [Nat.sub_self, List.replicate_zero, List.append_nil] at hx_
   exact ⟨_, _, ys, _, rfl, (St.keep1 hs15), hx_, by rw [p2, List.take_of_length_le (by omega)]⟩
end Go.Proofs.Ytmkgffhdbagmjaa
