/- Walks of Go functions, printed by a program (wip/gen). -/
import Derived.Test.YtlmcekfdlgkffaaD2
import Derived.Test.YtlmcekfdlgkffaaG1
namespace Go.Proofs.Ytlmcekfdlgkffaa
open Go Go.RowKit
set_option linter.unusedVariables false
set_option linter.unusedSimpArgs false
set_option maxHeartbeats 4000000 in
theorem c_laws_toGrid (a : GridR) (w : World) (f_a : okGridR 549755813888 w a) :
    Calls Try.prog 86 #[.agg #[i64 a.W, i64 a.H, .slice a.Cells.A a.Cells.n a.Cells.c]] w fun e w' => ∃ r L1, e = .returned (.agg #[i64 r.W, i64 r.H, .slice r.Cells.A r.Cells.n r.Cells.c]) ∧ St w [] L1 w' ∧ ownGridR r L1 ∧ r.dat = a.dat := by
 have nb_a_Cells := f_a.Cells_n
 have nl_a_Cells := f_a.Cells.len
 refine enter (vs := [.agg #[i64 a.W, i64 a.H, .slice a.Cells.A a.Cells.n a.Cells.c]]) 15 Try.func86 rfl Try.ntmps86 rfl rfl ?_
 have hs1 := St.init w
 refine WC.sr ?_
 refine WL.bx hs1 rfl (fun b2 _ hs3 => ?_)
 refine WL.al hs3 Try.zeroValue28 rfl rfl (fun b4 _ hs5 => ?_)
 refine WL.nil ?_
 refine WC.sr ?_
 refine WL.al hs5 Try.zeroValue28 rfl rfl (fun b6 _ hs7 => ?_)
 refine WL.nil ?_
 refine WC.sr ?_
 refine WL.run tbk 3 hs7 [2] rfl ⟨rfl, trivial⟩ ?_
 refine WL.st tbk hs7 0 rfl rfl (fun _ hs8 => ?_)
 refine WL.nil ?_
 refine WC.sr ?_
 refine WL.run tbk 3 hs8 [2] rfl ⟨rfl, trivial⟩ ?_
 refine WL.st tbk hs8 0 rfl rfl (fun _ hs9 => ?_)
 refine WL.nil ?_
 refine WC.sr ?_
 refine WL.run tbk 2 hs9 [2] rfl ⟨rfl, trivial⟩ ?_
 refine WL.call rfl rfl rfl (Run.call Try.call147 rfl rfl rfl) (c_laws_toCellS _ _ _ _ _ (SlF.st0 f_a.Cells hs9) ?_) ?_
 · first | assumption | rfl | omega
 rintro _ whs10 ⟨A11, c12, L1_13, rfl, hs10, ho14⟩
 replace hs10 := hs9.callF hs10
 refine ⟨_, rfl, ?_⟩
 replace hs10 := St.back [_, _, _] hs10
 refine WL.run tbk 1 hs10 [] rfl trivial ?_
 refine WL.st tbk hs10 0 rfl rfl (fun _ hs15 => ?_)
 refine WL.nil ?_
 refine WC.sr ?_
 refine WL.run tbk 1 hs15 [0] rfl ⟨rfl, trivial⟩ ?_
 refine WL.st tbk hs15 1 rfl rfl (fun _ hs16 => ?_)
 refine WL.nil ?_
 refine WC.ret ?_
 refine retV1 rfl (resV.cellA tbk hs16 1 rfl rfl rfl rfl) ?_
 refine ⟨⟨a.W, a.H, SlD.of ho14⟩, _, rfl, (St.keep1 (St.perm hs16 (L' := L1_13 ++ _) (perm_front (A := [_, _, _]) (List.Perm.refl _)))), ?_, ?_⟩
 · exact ho14
 · exact GridD.ext' rfl rfl rfl
set_option maxHeartbeats 4000000 in
theorem c_laws_eqGrid (a : GridR) (b : GridR) (w : World) (f_a : okGridR 549755813888 w a) (f_b : okGridR 549755813888 w b) (hab : a.dat = b.dat) :
    Calls Try.prog 93 #[.agg #[i64 a.W, i64 a.H, .slice a.Cells.A a.Cells.n a.Cells.c], .agg #[i64 b.W, i64 b.H, .slice b.Cells.A b.Cells.n b.Cells.c]] w fun e w' => e = .returned (.bool true) ∧ St w [] [] w' := by
 have nb_a_Cells := f_a.Cells_n
 have nl_a_Cells := f_a.Cells.len
 have nb_b_Cells := f_b.Cells_n
 have nl_b_Cells := f_b.Cells.len
 have e_W : a.W = b.W := congrArg (fun d : GridD => d.W) hab
 have e_H : a.H = b.H := congrArg (fun d : GridD => d.H) hab
 have e_Cells : a.Cells.xs = b.Cells.xs := congrArg (fun d : GridD => d.Cells) hab
 refine enter (vs := [.agg #[i64 a.W, i64 a.H, .slice a.Cells.A a.Cells.n a.Cells.c], .agg #[i64 b.W, i64 b.H, .slice b.Cells.A b.Cells.n b.Cells.c]]) 21 Try.func93 rfl Try.ntmps93 rfl rfl ?_
 have hs1 := St.init w
 refine WC.sr ?_
 refine WL.bx hs1 rfl (fun b2 _ hs3 => ?_)
 refine WL.bx hs3 rfl (fun b4 _ hs5 => ?_)
 refine WL.run tbk 1 hs5 [] rfl trivial ?_
 refine WL.nil ?_
 refine WC.seq (fun K6 hK6 => ?_)
 refine WC.rr tbk hs5 [1, 0] rfl ⟨rfl, rfl, trivial⟩ ?_
 refine WC.condF rfl (by simp [e_W, e_H]) ?_
 refine WC.skip ?_
 refine hK6 _ _ ?_
 refine WC.seq (fun K8 hK8 => ?_)
 refine WC.rr tbk hs5 [1, 0] rfl ⟨rfl, rfl, trivial⟩ ?_
 refine WC.condF rfl (by simp [e_W, e_H]) ?_
 refine WC.skip ?_
 refine hK8 _ _ ?_
 refine WC.seq (fun K10 hK10 => ?_)
 refine WC.sr ?_
 refine WL.run tbk 4 hs5 [1, 0] rfl ⟨rfl, rfl, trivial⟩ ?_
 refine WL.call rfl rfl rfl (Run.call Try.call152 rfl rfl rfl) (c_laws_eqCellS _ _ _ _ _ _ _ _ _ (SlF.st0 f_a.Cells hs5) (SlF.st0 f_b.Cells hs5) ?_ ?_) ?_
 · first | assumption | rfl | omega
 · first | assumption | rfl | omega
 rintro _ whs11 ⟨rfl, hs11⟩
 replace hs11 := hs5.call0 hs11
 refine ⟨_, rfl, ?_⟩
 refine WL.run tbk 1 hs11 [] rfl trivial ?_
 refine WL.nil ?_
 refine WC.condF rfl (by simp [e_W, e_H]) ?_
 refine WC.skip ?_
 refine hK10 _ _ ?_
 refine WC.rr tbk hs11 [] rfl trivial ?_
 refine WC.ret ?_
 refine retV1 rfl (resV.tmp rfl) ?_
 refine ⟨congrArg Ending.returned ?_, hs11.nil⟩
 rfl
set_option maxHeartbeats 4000000 in
theorem c_laws_szGrid (a : GridR) (left : Int) (w : World) (f_a : okGridR 9223372036854775807 w a) (h1 : 0 ≤ left) (h2 : left ≤ 1048576) :
    Calls Try.prog 79 #[.agg #[i64 a.W, i64 a.H, .slice a.Cells.A a.Cells.n a.Cells.c], i64 left] w fun e w' => e = .returned (.int .i64 (szR left (totGrid a.dat))) ∧ St w [] [] w' := by
 have nb_a_Cells := f_a.Cells_n
 have nl_a_Cells := f_a.Cells.len
 refine enter (vs := [.agg #[i64 a.W, i64 a.H, .slice a.Cells.A a.Cells.n a.Cells.c], i64 left]) 12 Try.func79 rfl Try.ntmps79 rfl rfl ?_
 have hs1 := St.init w
 refine WC.sr ?_
 refine WL.bx hs1 rfl (fun b2 _ hs3 => ?_)
 refine WL.run tbk 1 hs3 [] rfl trivial ?_
 refine WL.nil ?_
 refine WC.sr ?_
 refine WL.run tbk 3 hs3 [0] rfl ⟨rfl, trivial⟩ ?_
 refine WL.call rfl rfl rfl (Run.call Try.call144 rfl rfl rfl) (c_laws_szCellS _ _ _ _ _ _ (SlF.st0 f_a.Cells hs3) ?_ ?_ ?_) ?_
 · first | assumption | omega
 · first | assumption | omega | exact szR_b (by assumption) (by omega) (by first | assumption | omega)
 · first | assumption | omega
 rintro _ whs4 ⟨rfl, hs4⟩
 replace hs4 := hs3.call0 hs4
 refine ⟨_, rfl, ?_⟩
 refine WL.run tbk 1 hs4 [] rfl trivial ?_
 refine WL.nil ?_
 refine WC.seq (fun K5 hK5 => ?_)
 refine WC.rr tbk hs4 [] rfl trivial ?_
 refine WC.cD rfl (fun qh6 => ?_) (fun qh6 => ?_)
 ·try have soh6 := szR_ok qh6 (by omega)
  try have sbh6 := szR_b qh6 (by omega) (by first | assumption | omega)
  try have snh6 := szR_no qh6
  refine WC.rr tbk hs4 [] rfl trivial ?_
  refine WC.ret ?_
  refine tkR ?_
  clear hK5
  refine retV1 rfl (resV.tmp rfl) ?_
  refine ⟨congrArg Ending.returned ?_, hs4.nil⟩
  simp only [totGrid, GridR.dat] at *; first | (rw [szR_lt (by omega)]; done) | (refine congrArg (Value.int _) ?_; symm; refine (szR_le ?_).trans ?_ <;> omega) | rfl
 ·try have soh6 := szR_ok qh6 (by omega)
  try have sbh6 := szR_b qh6 (by omega) (by first | assumption | omega)
  try have snh6 := szR_no qh6
  refine WC.skip ?_
  refine hK5 _ _ ?_
  refine WC.rr tbk hs4 [] rfl trivial ?_
  refine WC.ret ?_
  refine retV1 rfl (resV.tmp rfl) ?_
  refine ⟨congrArg Ending.returned ?_, hs4.nil⟩
  simp only [totGrid, GridR.dat] at *; first | (rw [szR_lt (by omega)]; done) | (refine congrArg (Value.int _) ?_; symm; refine (szR_le ?_).trans ?_ <;> omega) | rfl
set_option maxHeartbeats 4000000 in
theorem c_laws_toVp (a : VpR) (w : World) (f_a : okVpR 549755813888 w a) :
    Calls Try.prog 19 #[.agg #[i64 a.State, .bool a.Mark, .slice a.Args.A a.Args.n a.Args.c, .slice a.Part.A a.Part.n a.Part.c]] w fun e w' => ∃ r L1, e = .returned (.agg #[i64 r.State, .bool r.Mark, .slice r.Args.A r.Args.n r.Args.c, .slice r.Part.A r.Part.n r.Part.c]) ∧ St w [] L1 w' ∧ ownVpR r L1 ∧ r.dat = a.dat := by
 have nb_a_Args := f_a.Args_n
 have nl_a_Args := f_a.Args.len
 have nb_a_Part := f_a.Part_n
 have nl_a_Part := f_a.Part.len
 refine enter (vs := [.agg #[i64 a.State, .bool a.Mark, .slice a.Args.A a.Args.n a.Args.c, .slice a.Part.A a.Part.n a.Part.c]]) 19 Try.func19 rfl Try.ntmps19 rfl rfl ?_
 have hs1 := St.init w
 refine WC.sr ?_
 refine WL.bx hs1 rfl (fun b2 _ hs3 => ?_)
 refine WL.al hs3 Try.zeroValue25 rfl rfl (fun b4 _ hs5 => ?_)
 refine WL.nil ?_
 refine WC.sr ?_
 refine WL.al hs5 Try.zeroValue25 rfl rfl (fun b6 _ hs7 => ?_)
 refine WL.nil ?_
 refine WC.sr ?_
 refine WL.run tbk 3 hs7 [2] rfl ⟨rfl, trivial⟩ ?_
 refine WL.st tbk hs7 0 rfl rfl (fun _ hs8 => ?_)
 refine WL.nil ?_
 refine WC.sr ?_
 refine WL.run tbk 3 hs8 [2] rfl ⟨rfl, trivial⟩ ?_
 refine WL.st tbk hs8 0 rfl rfl (fun _ hs9 => ?_)
 refine WL.nil ?_
 refine WC.sr ?_
 refine WL.run tbk 2 hs9 [2] rfl ⟨rfl, trivial⟩ ?_
 refine WL.call rfl rfl rfl (Run.call Try.call70 rfl rfl rfl) (c_laws_toIntS _ _ _ _ _ (SlF.st0 f_a.Args hs9) ?_) ?_
 · first | assumption | rfl | omega
 rintro _ whs10 ⟨A11, c12, L1_13, rfl, hs10, ho14⟩
 replace hs10 := hs9.callF hs10
 refine ⟨_, rfl, ?_⟩
 replace hs10 := St.back [_, _, _] hs10
 refine WL.run tbk 1 hs10 [] rfl trivial ?_
 refine WL.st tbk hs10 0 rfl rfl (fun _ hs15 => ?_)
 refine WL.nil ?_
 refine WC.sr ?_
 refine WL.run tbk 2 hs15 [2] rfl ⟨rfl, trivial⟩ ?_
 refine WL.call rfl rfl rfl (Run.call Try.call28 rfl rfl rfl) (c_laws_toByteS _ _ _ _ _ (SlF.st0 f_a.Part hs15) ?_) ?_
 · first | assumption | rfl | omega
 rintro _ whs16 ⟨A17, c18, L1_19, rfl, hs16, ho20⟩
 replace hs16 := hs15.callF hs16
 refine ⟨_, rfl, ?_⟩
 replace hs16 := St.back [_, _, _] hs16
 refine WL.run tbk 1 hs16 [] rfl trivial ?_
 refine WL.st tbk hs16 0 rfl rfl (fun _ hs21 => ?_)
 refine WL.nil ?_
 refine WC.sr ?_
 refine WL.run tbk 1 hs21 [0] rfl ⟨rfl, trivial⟩ ?_
 refine WL.st tbk hs21 1 rfl rfl (fun _ hs22 => ?_)
 refine WL.nil ?_
 refine WC.ret ?_
 refine retV1 rfl (resV.cellA tbk hs22 1 rfl rfl rfl rfl) ?_
 obtain ⟨L24, hs23, ho25⟩ := ownVpR.fold ⟨0, false, ⟨_, _, _, _⟩, ⟨_, _, _, _⟩⟩ (St.perm (St.perm hs22 (L' := L1_19 ++ _) (perm_front (A := [_, _, _]) (List.Perm.refl _))) (L' := L1_13 ++ _) (perm_front (A := L1_19) (perm_front (A := [_, _, _]) (List.Perm.refl _)))) ho14 ho20
 have hs26 := (St.perm (St.perm (St.perm hs23 (L' := [_] ++ _) (perm_front (A := L24) (perm_front (A := [_, _]) (List.Perm.refl _)))) (L' := [_] ++ _) (perm_front (A := [_]) (perm_front (A := L24) (perm_front (A := [_]) (List.Perm.refl _))))) (L' := [_] ++ _) (perm_front (A := [_, _]) (perm_front (A := L24) (List.Perm.refl _))))
 refine ⟨⟨a.State, a.Mark, SlD.of ho14, SlD.of ho20⟩, _, rfl, (St.keep1 (St.perm hs26 (L' := L24 ++ _) (perm_front (A := [_, _, _]) (List.Perm.refl _)))), ?_, ?_⟩
 · exact (by exact ho25)
 · exact VpD.ext' rfl rfl rfl rfl
set_option maxHeartbeats 4000000 in
theorem c_laws_eqVp (a : VpR) (b : VpR) (w : World) (f_a : okVpR 549755813888 w a) (f_b : okVpR 549755813888 w b) (hab : a.dat = b.dat) :
    Calls Try.prog 21 #[.agg #[i64 a.State, .bool a.Mark, .slice a.Args.A a.Args.n a.Args.c, .slice a.Part.A a.Part.n a.Part.c], .agg #[i64 b.State, .bool b.Mark, .slice b.Args.A b.Args.n b.Args.c, .slice b.Part.A b.Part.n b.Part.c]] w fun e w' => e = .returned (.bool true) ∧ St w [] [] w' := by
 have nb_a_Args := f_a.Args_n
 have nl_a_Args := f_a.Args.len
 have nb_a_Part := f_a.Part_n
 have nl_a_Part := f_a.Part.len
 have nb_b_Args := f_b.Args_n
 have nl_b_Args := f_b.Args.len
 have nb_b_Part := f_b.Part_n
 have nl_b_Part := f_b.Part.len
 have e_State : a.State = b.State := congrArg (fun d : VpD => d.State) hab
 have e_Mark : a.Mark = b.Mark := congrArg (fun d : VpD => d.Mark) hab
 have e_Args : a.Args.xs = b.Args.xs := congrArg (fun d : VpD => d.Args) hab
 have e_Part : a.Part.xs = b.Part.xs := congrArg (fun d : VpD => d.Part) hab
 refine enter (vs := [.agg #[i64 a.State, .bool a.Mark, .slice a.Args.A a.Args.n a.Args.c, .slice a.Part.A a.Part.n a.Part.c], .agg #[i64 b.State, .bool b.Mark, .slice b.Args.A b.Args.n b.Args.c, .slice b.Part.A b.Part.n b.Part.c]]) 27 Try.func21 rfl Try.ntmps21 rfl rfl ?_
 have hs1 := St.init w
 refine WC.sr ?_
 refine WL.bx hs1 rfl (fun b2 _ hs3 => ?_)
 refine WL.bx hs3 rfl (fun b4 _ hs5 => ?_)
 refine WL.run tbk 1 hs5 [] rfl trivial ?_
 refine WL.nil ?_
 refine WC.seq (fun K6 hK6 => ?_)
 refine WC.rr tbk hs5 [1, 0] rfl ⟨rfl, rfl, trivial⟩ ?_
 refine WC.condF rfl (by simp [e_State, e_Mark]) ?_
 refine WC.skip ?_
 refine hK6 _ _ ?_
 refine WC.seq (fun K8 hK8 => ?_)
 refine WC.rr tbk hs5 [1, 0] rfl ⟨rfl, rfl, trivial⟩ ?_
 refine WC.condF rfl (by simp [e_State, e_Mark]) ?_
 refine WC.skip ?_
 refine hK8 _ _ ?_
 refine WC.seq (fun K10 hK10 => ?_)
 refine WC.sr ?_
 refine WL.run tbk 4 hs5 [1, 0] rfl ⟨rfl, rfl, trivial⟩ ?_
 refine WL.call rfl rfl rfl (Run.call Try.call74 rfl rfl rfl) (c_laws_eqIntS _ _ _ _ _ _ _ _ _ (SlF.st0 f_a.Args hs5) (SlF.st0 f_b.Args hs5) ?_ ?_) ?_
 · first | assumption | rfl | omega
 · first | assumption | rfl | omega
 rintro _ whs11 ⟨rfl, hs11⟩
 replace hs11 := hs5.call0 hs11
 refine ⟨_, rfl, ?_⟩
 refine WL.run tbk 1 hs11 [] rfl trivial ?_
 refine WL.nil ?_
 refine WC.condF rfl (by simp [e_State, e_Mark]) ?_
 refine WC.skip ?_
 refine hK10 _ _ ?_
 refine WC.seq (fun K13 hK13 => ?_)
 refine WC.sr ?_
 refine WL.run tbk 4 hs11 [1, 0] rfl ⟨rfl, rfl, trivial⟩ ?_
 refine WL.call rfl rfl rfl (Run.call Try.call31 rfl rfl rfl) (c_laws_eqByteS _ _ _ _ _ _ _ _ _ (SlF.st0 f_a.Part hs11) (SlF.st0 f_b.Part hs11) ?_ ?_) ?_
 · first | assumption | rfl | omega
 · first | assumption | rfl | omega
 rintro _ whs14 ⟨rfl, hs14⟩
 replace hs14 := hs11.call0 hs14
 refine ⟨_, rfl, ?_⟩
 refine WL.run tbk 1 hs14 [] rfl trivial ?_
 refine WL.nil ?_
 refine WC.condF rfl (by simp [e_State, e_Mark]) ?_
 refine WC.skip ?_
 refine hK13 _ _ ?_
 refine WC.rr tbk hs14 [] rfl trivial ?_
 refine WC.ret ?_
 refine retV1 rfl (resV.tmp rfl) ?_
 refine ⟨congrArg Ending.returned ?_, hs14.nil⟩
 rfl
set_option maxHeartbeats 4000000 in
theorem c_laws_szVp (a : VpR) (left : Int) (w : World) (f_a : okVpR 9223372036854775807 w a) (h1 : 0 ≤ left) (h2 : left ≤ 1048576) :
    Calls Try.prog 17 #[.agg #[i64 a.State, .bool a.Mark, .slice a.Args.A a.Args.n a.Args.c, .slice a.Part.A a.Part.n a.Part.c], i64 left] w fun e w' => e = .returned (.int .i64 (szR left (totVp a.dat))) ∧ St w [] [] w' := by
 have nb_a_Args := f_a.Args_n
 have nl_a_Args := f_a.Args.len
 have nb_a_Part := f_a.Part_n
 have nl_a_Part := f_a.Part.len
 refine enter (vs := [.agg #[i64 a.State, .bool a.Mark, .slice a.Args.A a.Args.n a.Args.c, .slice a.Part.A a.Part.n a.Part.c], i64 left]) 18 Try.func17 rfl Try.ntmps17 rfl rfl ?_
 have hs1 := St.init w
 refine WC.sr ?_
 refine WL.bx hs1 rfl (fun b2 _ hs3 => ?_)
 refine WL.run tbk 1 hs3 [] rfl trivial ?_
 refine WL.nil ?_
 refine WC.sr ?_
 refine WL.run tbk 3 hs3 [0] rfl ⟨rfl, trivial⟩ ?_
 refine WL.call rfl rfl rfl (Run.call Try.call64 rfl rfl rfl) (c_laws_szIntS _ _ _ _ _ _ (SlF.st0 f_a.Args hs3) ?_ ?_ ?_) ?_
 · first | assumption | omega
 · first | assumption | omega | exact szR_b (by assumption) (by omega) (by first | assumption | omega)
 · first | assumption | omega
 rintro _ whs4 ⟨rfl, hs4⟩
 replace hs4 := hs3.call0 hs4
 refine ⟨_, rfl, ?_⟩
 refine WL.run tbk 1 hs4 [] rfl trivial ?_
 refine WL.nil ?_
 refine WC.seq (fun K5 hK5 => ?_)
 refine WC.rr tbk hs4 [] rfl trivial ?_
 refine WC.cD rfl (fun qh6 => ?_) (fun qh6 => ?_)
 ·try have soh6 := szR_ok qh6 (by omega)
  try have sbh6 := szR_b qh6 (by omega) (by first | assumption | omega)
  try have snh6 := szR_no qh6
  refine WC.rr tbk hs4 [] rfl trivial ?_
  refine WC.ret ?_
  refine tkR ?_
  clear hK5
  refine retV1 rfl (resV.tmp rfl) ?_
  refine ⟨congrArg Ending.returned ?_, hs4.nil⟩
  simp only [totVp, VpR.dat] at *; first | (rw [szR_lt (by omega)]; done) | (refine congrArg (Value.int _) ?_; symm; refine (szR_le ?_).trans ?_ <;> omega) | rfl
 ·try have soh6 := szR_ok qh6 (by omega)
  try have sbh6 := szR_b qh6 (by omega) (by first | assumption | omega)
  try have snh6 := szR_no qh6
  refine WC.skip ?_
  refine hK5 _ _ ?_
  refine WC.sr ?_
  refine WL.run tbk 3 hs4 [0] rfl ⟨rfl, trivial⟩ ?_
  refine WL.call rfl rfl rfl (Run.call Try.call65 rfl rfl rfl) (c_laws_szByteS _ _ _ _ _ _ (SlF.st0 f_a.Part hs4) ?_ ?_ ?_) ?_
  · first | assumption | omega
  · first | assumption | omega | exact szR_b (by assumption) (by omega) (by first | assumption | omega)
  · first | assumption | omega
  rintro _ whs7 ⟨rfl, hs7⟩
  replace hs7 := hs4.call0 hs7
  refine ⟨_, rfl, ?_⟩
  refine WL.run tbk 1 hs7 [] rfl trivial ?_
  refine WL.nil ?_
  refine WC.seq (fun K8 hK8 => ?_)
  refine WC.rr tbk hs7 [] rfl trivial ?_
  refine WC.cD rfl (fun qh9 => ?_) (fun qh9 => ?_)
  ·try have soh9 := szR_ok qh9 (by omega)
   try have sbh9 := szR_b qh9 (by omega) (by first | assumption | omega)
   try have snh9 := szR_no qh9
   refine WC.rr tbk hs7 [] rfl trivial ?_
   refine WC.ret ?_
   refine tkR ?_
   clear hK8
   refine retV1 rfl (resV.tmp rfl) ?_
   refine ⟨congrArg Ending.returned ?_, hs7.nil⟩
   simp only [totVp, VpR.dat] at *; first | (rw [szR_lt (by omega)]; done) | (refine congrArg (Value.int _) ?_; symm; refine (szR_le ?_).trans ?_ <;> omega) | rfl
  ·try have soh9 := szR_ok qh9 (by omega)
   try have sbh9 := szR_b qh9 (by omega) (by first | assumption | omega)
   try have snh9 := szR_no qh9
   refine WC.skip ?_
   refine hK8 _ _ ?_
   refine WC.rr tbk hs7 [] rfl trivial ?_
   refine WC.ret ?_
   refine retV1 rfl (resV.tmp rfl) ?_
   refine ⟨congrArg Ending.returned ?_, hs7.nil⟩
   simp only [totVp, VpR.dat] at *; first | (rw [szR_lt (by omega)]; done) | (refine congrArg (Value.int _) ?_; symm; refine (szR_le ?_).trans ?_ <;> omega) | rfl
set_option maxHeartbeats 4000000 in
theorem c_laws_toRow (a : RowR) (w : World) (f_a : okRowR 549755813888 w a) :
    Calls Try.prog 148 #[.agg #[.slice a.Cells.A a.Cells.n a.Cells.c]] w fun e w' => ∃ r L1, e = .returned (.agg #[.slice r.Cells.A r.Cells.n r.Cells.c]) ∧ St w [] L1 w' ∧ ownRowR r L1 ∧ r.dat = a.dat := by
 have nb_a_Cells := f_a.Cells_n
 have nl_a_Cells := f_a.Cells.len
 refine enter (vs := [.agg #[.slice a.Cells.A a.Cells.n a.Cells.c]]) 9 Try.func148 rfl Try.ntmps148 rfl rfl ?_
 have hs1 := St.init w
 refine WC.sr ?_
 refine WL.bx hs1 rfl (fun b2 _ hs3 => ?_)
 refine WL.al hs3 Try.zeroValue98 rfl rfl (fun b4 _ hs5 => ?_)
 refine WL.nil ?_
 refine WC.sr ?_
 refine WL.al hs5 Try.zeroValue98 rfl rfl (fun b6 _ hs7 => ?_)
 refine WL.nil ?_
 refine WC.sr ?_
 refine WL.run tbk 2 hs7 [2] rfl ⟨rfl, trivial⟩ ?_
 refine WL.call rfl rfl rfl (Run.call Try.call147 rfl rfl rfl) (c_laws_toCellS _ _ _ _ _ (SlF.st0 f_a.Cells hs7) ?_) ?_
 · first | assumption | rfl | omega
 rintro _ whs8 ⟨A9, c10, L1_11, rfl, hs8, ho12⟩
 replace hs8 := hs7.callF hs8
 refine ⟨_, rfl, ?_⟩
 replace hs8 := St.back [_, _, _] hs8
 refine WL.run tbk 1 hs8 [] rfl trivial ?_
 refine WL.st tbk hs8 0 rfl rfl (fun _ hs13 => ?_)
 refine WL.nil ?_
 refine WC.sr ?_
 refine WL.run tbk 1 hs13 [0] rfl ⟨rfl, trivial⟩ ?_
 refine WL.st tbk hs13 1 rfl rfl (fun _ hs14 => ?_)
 refine WL.nil ?_
 refine WC.ret ?_
 refine retV1 rfl (resV.cellA tbk hs14 1 rfl rfl rfl rfl) ?_
 refine ⟨⟨SlD.of ho12⟩, _, rfl, (St.keep1 (St.perm hs14 (L' := L1_11 ++ _) (perm_front (A := [_, _, _]) (List.Perm.refl _)))), ?_, ?_⟩
 · exact ho12
 · exact RowD.ext' rfl
set_option maxHeartbeats 4000000 in
theorem c_laws_eqRow (a : RowR) (b : RowR) (w : World) (f_a : okRowR 549755813888 w a) (f_b : okRowR 549755813888 w b) (hab : a.dat = b.dat) :
    Calls Try.prog 153 #[.agg #[.slice a.Cells.A a.Cells.n a.Cells.c], .agg #[.slice b.Cells.A b.Cells.n b.Cells.c]] w fun e w' => e = .returned (.bool true) ∧ St w [] [] w' := by
 have nb_a_Cells := f_a.Cells_n
 have nl_a_Cells := f_a.Cells.len
 have nb_b_Cells := f_b.Cells_n
 have nl_b_Cells := f_b.Cells.len
 have e_Cells : a.Cells.xs = b.Cells.xs := congrArg (fun d : RowD => d.Cells) hab
 refine enter (vs := [.agg #[.slice a.Cells.A a.Cells.n a.Cells.c], .agg #[.slice b.Cells.A b.Cells.n b.Cells.c]]) 11 Try.func153 rfl Try.ntmps153 rfl rfl ?_
 have hs1 := St.init w
 refine WC.sr ?_
 refine WL.bx hs1 rfl (fun b2 _ hs3 => ?_)
 refine WL.bx hs3 rfl (fun b4 _ hs5 => ?_)
 refine WL.run tbk 1 hs5 [] rfl trivial ?_
 refine WL.nil ?_
 refine WC.seq (fun K6 hK6 => ?_)
 refine WC.sr ?_
 refine WL.run tbk 4 hs5 [1, 0] rfl ⟨rfl, rfl, trivial⟩ ?_
 refine WL.call rfl rfl rfl (Run.call Try.call152 rfl rfl rfl) (c_laws_eqCellS _ _ _ _ _ _ _ _ _ (SlF.st0 f_a.Cells hs5) (SlF.st0 f_b.Cells hs5) ?_ ?_) ?_
 · first | assumption | rfl | omega
 · first | assumption | rfl | omega
 rintro _ whs7 ⟨rfl, hs7⟩
 replace hs7 := hs5.call0 hs7
 refine ⟨_, rfl, ?_⟩
 refine WL.run tbk 1 hs7 [] rfl trivial ?_
 refine WL.nil ?_
 refine WC.condF rfl (by simp) ?_
 refine WC.skip ?_
 refine hK6 _ _ ?_
 refine WC.rr tbk hs7 [] rfl trivial ?_
 refine WC.ret ?_
 refine retV1 rfl (resV.tmp rfl) ?_
 refine ⟨congrArg Ending.returned ?_, hs7.nil⟩
 rfl
set_option maxHeartbeats 4000000 in
theorem c_laws_szRow (a : RowR) (left : Int) (w : World) (f_a : okRowR 9223372036854775807 w a) (h1 : 0 ≤ left) (h2 : left ≤ 1048576) :
    Calls Try.prog 145 #[.agg #[.slice a.Cells.A a.Cells.n a.Cells.c], i64 left] w fun e w' => e = .returned (.int .i64 (szR left (totRow a.dat))) ∧ St w [] [] w' := by
 have nb_a_Cells := f_a.Cells_n
 have nl_a_Cells := f_a.Cells.len
 refine enter (vs := [.agg #[.slice a.Cells.A a.Cells.n a.Cells.c], i64 left]) 12 Try.func145 rfl Try.ntmps145 rfl rfl ?_
 have hs1 := St.init w
 refine WC.sr ?_
 refine WL.bx hs1 rfl (fun b2 _ hs3 => ?_)
 refine WL.run tbk 1 hs3 [] rfl trivial ?_
 refine WL.nil ?_
 refine WC.sr ?_
 refine WL.run tbk 3 hs3 [0] rfl ⟨rfl, trivial⟩ ?_
 refine WL.call rfl rfl rfl (Run.call Try.call144 rfl rfl rfl) (c_laws_szCellS _ _ _ _ _ _ (SlF.st0 f_a.Cells hs3) ?_ ?_ ?_) ?_
 · first | assumption | omega
 · first | assumption | omega | exact szR_b (by assumption) (by omega) (by first | assumption | omega)
 · first | assumption | omega
 rintro _ whs4 ⟨rfl, hs4⟩
 replace hs4 := hs3.call0 hs4
 refine ⟨_, rfl, ?_⟩
 refine WL.run tbk 1 hs4 [] rfl trivial ?_
 refine WL.nil ?_
 refine WC.seq (fun K5 hK5 => ?_)
 refine WC.rr tbk hs4 [] rfl trivial ?_
 refine WC.cD rfl (fun qh6 => ?_) (fun qh6 => ?_)
 ·try have soh6 := szR_ok qh6 (by omega)
  try have sbh6 := szR_b qh6 (by omega) (by first | assumption | omega)
  try have snh6 := szR_no qh6
  refine WC.rr tbk hs4 [] rfl trivial ?_
  refine WC.ret ?_
  refine tkR ?_
  clear hK5
  refine retV1 rfl (resV.tmp rfl) ?_
  refine ⟨congrArg Ending.returned ?_, hs4.nil⟩
  simp only [totRow, RowR.dat] at *; first | (rw [szR_lt (by omega)]; done) | (refine congrArg (Value.int _) ?_; symm; refine (szR_le ?_).trans ?_ <;> omega) | rfl
 ·try have soh6 := szR_ok qh6 (by omega)
  try have sbh6 := szR_b qh6 (by omega) (by first | assumption | omega)
  try have snh6 := szR_no qh6
  refine WC.skip ?_
  refine hK5 _ _ ?_
  refine WC.rr tbk hs4 [] rfl trivial ?_
  refine WC.ret ?_
  refine retV1 rfl (resV.tmp rfl) ?_
  refine ⟨congrArg Ending.returned ?_, hs4.nil⟩
  simp only [totRow, RowR.dat] at *; first | (rw [szR_lt (by omega)]; done) | (refine congrArg (Value.int _) ?_; symm; refine (szR_le ?_).trans ?_ <;> omega) | rfl
set_option maxHeartbeats 4000000 in
theorem c_laws_eqAct (a : ActR) (b : ActR) (w : World) (f_a : okActR 549755813888 w a) (f_b : okActR 549755813888 w b) (hab : a.dat = b.dat) :
    Calls Try.prog 22 #[.agg #[i64 a.Kind, i64 a.R, .bool a.Mark, .slice a.Args.A a.Args.n a.Args.c], .agg #[i64 b.Kind, i64 b.R, .bool b.Mark, .slice b.Args.A b.Args.n b.Args.c]] w fun e w' => e = .returned (.bool true) ∧ St w [] [] w' := by
 have nb_a_Args := f_a.Args_n
 have nl_a_Args := f_a.Args.len
 have nb_b_Args := f_b.Args_n
 have nl_b_Args := f_b.Args.len
 have e_Kind : a.Kind = b.Kind := congrArg (fun d : ActD => d.Kind) hab
 have e_R : a.R = b.R := congrArg (fun d : ActD => d.R) hab
 have e_Mark : a.Mark = b.Mark := congrArg (fun d : ActD => d.Mark) hab
 have e_Args : a.Args.xs = b.Args.xs := congrArg (fun d : ActD => d.Args) hab
 refine enter (vs := [.agg #[i64 a.Kind, i64 a.R, .bool a.Mark, .slice a.Args.A a.Args.n a.Args.c], .agg #[i64 b.Kind, i64 b.R, .bool b.Mark, .slice b.Args.A b.Args.n b.Args.c]]) 26 Try.func22 rfl Try.ntmps22 rfl rfl ?_
 have hs1 := St.init w
 refine WC.sr ?_
 refine WL.bx hs1 rfl (fun b2 _ hs3 => ?_)
 refine WL.bx hs3 rfl (fun b4 _ hs5 => ?_)
 refine WL.run tbk 1 hs5 [] rfl trivial ?_
 refine WL.nil ?_
 refine WC.seq (fun K6 hK6 => ?_)
 refine WC.rr tbk hs5 [1, 0] rfl ⟨rfl, rfl, trivial⟩ ?_
 refine WC.condF rfl (by simp [e_Kind, e_R, e_Mark]) ?_
 refine WC.skip ?_
 refine hK6 _ _ ?_
 refine WC.seq (fun K8 hK8 => ?_)
 refine WC.rr tbk hs5 [1, 0] rfl ⟨rfl, rfl, trivial⟩ ?_
 refine WC.condF rfl (by simp [e_Kind, e_R, e_Mark]) ?_
 refine WC.skip ?_
 refine hK8 _ _ ?_
 refine WC.seq (fun K10 hK10 => ?_)
 refine WC.rr tbk hs5 [1, 0] rfl ⟨rfl, rfl, trivial⟩ ?_
 refine WC.condF rfl (by simp [e_Kind, e_R, e_Mark]) ?_
 refine WC.skip ?_
 refine hK10 _ _ ?_
 refine WC.seq (fun K12 hK12 => ?_)
 refine WC.sr ?_
 refine WL.run tbk 4 hs5 [1, 0] rfl ⟨rfl, rfl, trivial⟩ ?_
 refine WL.call rfl rfl rfl (Run.call Try.call74 rfl rfl rfl) (c_laws_eqIntS _ _ _ _ _ _ _ _ _ (SlF.st0 f_a.Args hs5) (SlF.st0 f_b.Args hs5) ?_ ?_) ?_
 · first | assumption | rfl | omega
 · first | assumption | rfl | omega
 rintro _ whs13 ⟨rfl, hs13⟩
 replace hs13 := hs5.call0 hs13
 refine ⟨_, rfl, ?_⟩
 refine WL.run tbk 1 hs13 [] rfl trivial ?_
 refine WL.nil ?_
 refine WC.condF rfl (by simp [e_Kind, e_R, e_Mark]) ?_
 refine WC.skip ?_
 refine hK12 _ _ ?_
 refine WC.rr tbk hs13 [] rfl trivial ?_
 refine WC.ret ?_
 refine retV1 rfl (resV.tmp rfl) ?_
 refine ⟨congrArg Ending.returned ?_, hs13.nil⟩
 rfl
end Go.Proofs.Ytlmcekfdlgkffaa
