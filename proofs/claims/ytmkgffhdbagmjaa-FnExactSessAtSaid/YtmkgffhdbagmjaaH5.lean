/- Walks of Go functions, printed by a program (wip/gen). -/
import Derived.Test.YtmkgffhdbagmjaaH4
namespace Go.Proofs.Ytmkgffhdbagmjaa
open Go Go.RowKit
set_option linter.unusedVariables false
set_option linter.unusedSimpArgs false
set_option maxHeartbeats 4000000 in
theorem c_laws_szState (a : StateR) (left : Int) (w : World) (f_a : okStateR 9223372036854775807 w a) (h1 : 0 ≤ left) (h2 : left ≤ 1048576) :
    Calls Try.prog 13 #[.agg #[i64 a.W, i64 a.H, i64 a.Limit, i64 a.Next, .slice a.Panes.A a.Panes.n a.Panes.c, .slice a.Wins.A a.Wins.n a.Wins.c, .slice a.Sess.A a.Sess.n a.Sess.c], i64 left] w fun e w' => e = .returned (.int .i64 (szR left (totState a.dat))) ∧ St w [] [] w' := by
 have nb_a_Panes := f_a.Panes_n
 have nl_a_Panes := f_a.Panes.sl.len
 have nb_a_Wins := f_a.Wins_n
 have nl_a_Wins := f_a.Wins.sl.len
 have nb_a_Sess := f_a.Sess_n
 have nl_a_Sess := f_a.Sess.sl.len
 refine enter (vs := [.agg #[i64 a.W, i64 a.H, i64 a.Limit, i64 a.Next, .slice a.Panes.A a.Panes.n a.Panes.c, .slice a.Wins.A a.Wins.n a.Wins.c, .slice a.Sess.A a.Sess.n a.Sess.c], i64 left]) 24 Try.func13 rfl Try.ntmps13 rfl rfl ?_
 have hs1 := St.init w
 refine WC.sr ?_
 refine WL.bx hs1 rfl (fun b2 _ hs3 => ?_)
 refine WL.run tbk 1 hs3 [] rfl trivial ?_
 refine WL.nil ?_
 refine WC.sr ?_
 refine WL.run tbk 3 hs3 [0] rfl ⟨rfl, trivial⟩ ?_
 refine WL.call rfl rfl rfl (Run.call Try.call32 rfl rfl rfl) (c_laws_szPaneS _ _ _ _ _ _ (SlN.st0 okPaneR.st0 f_a.Panes hs3) ?_ ?_ ?_) ?_
 · first | assumption | omega
 · first | assumption | omega | exact szR_b (by assumption) (by omega) (by first | assumption | omega)
 · first | assumption | omega
 rintro _ whs4 ⟨rfl, hs4⟩
 replace hs4 := hs3.call0 hs4
 refine ⟨_, rfl, ?_⟩
 refine WL.run tbk 1 hs4 [] rfl trivial ?_
 refine WL.nil ?_
 refine WC.seq (fun K5 hK5 => ?_)
 refine WC.rr tbk hs4 [] rfl trivial ?_
 refine WC.cD rfl (fun qh6 => ?_) (fun qh6 => ?_)
 ·try have soh6 := szR_ok qh6 (by omega)
  try have sbh6 := szR_b qh6 (by omega) (by first | assumption | omega)
  try have snh6 := szR_no qh6
  refine WC.rr tbk hs4 [] rfl trivial ?_
  refine WC.ret ?_
  refine tkR ?_
  clear hK5
  refine retV1 rfl (resV.tmp rfl) ?_
  refine ⟨congrArg Ending.returned ?_, hs4.nil⟩
  simp only [totState, StateR.dat] at *; first | (rw [szR_lt (by omega)]; done) | (refine congrArg (Value.int _) ?_; symm; refine (szR_le ?_).trans ?_ <;> omega) | rfl
 ·try have soh6 := szR_ok qh6 (by omega)
  try have sbh6 := szR_b qh6 (by omega) (by first | assumption | omega)
  try have snh6 := szR_no qh6
  refine WC.skip ?_
  refine hK5 _ _ ?_
  refine WC.sr ?_
  refine WL.run tbk 3 hs4 [0] rfl ⟨rfl, trivial⟩ ?_
  refine WL.call rfl rfl rfl (Run.call Try.call33 rfl rfl rfl) (c_laws_szWinS _ _ _ _ _ _ (SlN.st0 okWinR.st0 f_a.Wins hs4) ?_ ?_ ?_) ?_
  · first | assumption | omega
  · first | assumption | omega | exact szR_b (by assumption) (by omega) (by first | assumption | omega)
  · first | assumption | omega
  rintro _ whs7 ⟨rfl, hs7⟩
  replace hs7 := hs4.call0 hs7
  refine ⟨_, rfl, ?_⟩
  refine WL.run tbk 1 hs7 [] rfl trivial ?_
  refine WL.nil ?_
  refine WC.seq (fun K8 hK8 => ?_)
  refine WC.rr tbk hs7 [] rfl trivial ?_
  refine WC.cD rfl (fun qh9 => ?_) (fun qh9 => ?_)
  ·try have soh9 := szR_ok qh9 (by omega)
   try have sbh9 := szR_b qh9 (by omega) (by first | assumption | omega)
   try have snh9 := szR_no qh9
   refine WC.rr tbk hs7 [] rfl trivial ?_
   refine WC.ret ?_
   refine tkR ?_
   clear hK8
   refine retV1 rfl (resV.tmp rfl) ?_
   refine ⟨congrArg Ending.returned ?_, hs7.nil⟩
   simp only [totState, StateR.dat] at *; first | (rw [szR_lt (by omega)]; done) | (refine congrArg (Value.int _) ?_; symm; refine (szR_le ?_).trans ?_ <;> omega) | rfl
  ·try have soh9 := szR_ok qh9 (by omega)
   try have sbh9 := szR_b qh9 (by omega) (by first | assumption | omega)
   try have snh9 := szR_no qh9
   refine WC.skip ?_
   refine hK8 _ _ ?_
   refine WC.sr ?_
   refine WL.run tbk 3 hs7 [0] rfl ⟨rfl, trivial⟩ ?_
   refine WL.call rfl rfl rfl (Run.call Try.call34 rfl rfl rfl) (c_laws_szSessS _ _ _ _ _ _ (SlN.st0 okSessR.st0 f_a.Sess hs7) ?_ ?_ ?_) ?_
   · first | assumption | omega
   · first | assumption | omega | exact szR_b (by assumption) (by omega) (by first | assumption | omega)
   · first | assumption | omega
   rintro _ whs10 ⟨rfl, hs10⟩
   replace hs10 := hs7.call0 hs10
   refine ⟨_, rfl, ?_⟩
   refine WL.run tbk 1 hs10 [] rfl trivial ?_
   refine WL.nil ?_
   refine WC.seq (fun K11 hK11 => ?_)
   refine WC.rr tbk hs10 [] rfl trivial ?_
   refine WC.cD rfl (fun qh12 => ?_) (fun qh12 => ?_)
   ·try have soh12 := szR_ok qh12 (by omega)
    try have sbh12 := szR_b qh12 (by omega) (by first | assumption | omega)
    try have snh12 := szR_no qh12
    refine WC.rr tbk hs10 [] rfl trivial ?_
    refine WC.ret ?_
    refine tkR ?_
    clear hK11
    refine retV1 rfl (resV.tmp rfl) ?_
    refine ⟨congrArg Ending.returned ?_, hs10.nil⟩
    simp only [totState, StateR.dat] at *; first | (rw [szR_lt (by omega)]; done) | (refine congrArg (Value.int _) ?_; symm; refine (szR_le ?_).trans ?_ <;> omega) | rfl
   ·try have soh12 := szR_ok qh12 (by omega)
    try have sbh12 := szR_b qh12 (by omega) (by first | assumption | omega)
    try have snh12 := szR_no qh12
    refine WC.skip ?_
    refine hK11 _ _ ?_
    refine WC.rr tbk hs10 [] rfl trivial ?_
    refine WC.ret ?_
    refine retV1 rfl (resV.tmp rfl) ?_
    refine ⟨congrArg Ending.returned ?_, hs10.nil⟩
    simp only [totState, StateR.dat] at *; first | (rw [szR_lt (by omega)]; done) | (refine congrArg (Value.int _) ?_; symm; refine (szR_le ?_).trans ?_ <;> omega) | rfl
set_option maxHeartbeats 4000000 in
theorem c_laws_toState (a : StateR) (w : World) (f_a : okStateR 549755813888 w a) :
    Calls Try.prog 15 #[.agg #[i64 a.W, i64 a.H, i64 a.Limit, i64 a.Next, .slice a.Panes.A a.Panes.n a.Panes.c, .slice a.Wins.A a.Wins.n a.Wins.c, .slice a.Sess.A a.Sess.n a.Sess.c]] w fun e w' => ∃ r L1, e = .returned (.agg #[i64 r.W, i64 r.H, i64 r.Limit, i64 r.Next, .slice r.Panes.A r.Panes.n r.Panes.c, .slice r.Wins.A r.Wins.n r.Wins.c, .slice r.Sess.A r.Sess.n r.Sess.c]) ∧ St w [] L1 w' ∧ ownStateR r L1 ∧ r.dat = a.dat := by
 have nb_a_Panes := f_a.Panes_n
 have nl_a_Panes := f_a.Panes.sl.len
 have nb_a_Wins := f_a.Wins_n
 have nl_a_Wins := f_a.Wins.sl.len
 have nb_a_Sess := f_a.Sess_n
 have nl_a_Sess := f_a.Sess.sl.len
 refine enter (vs := [.agg #[i64 a.W, i64 a.H, i64 a.Limit, i64 a.Next, .slice a.Panes.A a.Panes.n a.Panes.c, .slice a.Wins.A a.Wins.n a.Wins.c, .slice a.Sess.A a.Sess.n a.Sess.c]]) 29 Try.func15 rfl Try.ntmps15 rfl rfl ?_
 have hs1 := St.init w
 refine WC.sr ?_
 refine WL.bx hs1 rfl (fun b2 _ hs3 => ?_)
 refine WL.al hs3 Try.zeroValue66 rfl rfl (fun b4 _ hs5 => ?_)
 refine WL.nil ?_
 refine WC.sr ?_
 refine WL.al hs5 Try.zeroValue66 rfl rfl (fun b6 _ hs7 => ?_)
 refine WL.nil ?_
 refine WC.sr ?_
 refine WL.run tbk 3 hs7 [2] rfl ⟨rfl, trivial⟩ ?_
 refine WL.st tbk hs7 0 rfl rfl (fun _ hs8 => ?_)
 refine WL.nil ?_
 refine WC.sr ?_
 refine WL.run tbk 3 hs8 [2] rfl ⟨rfl, trivial⟩ ?_
 refine WL.st tbk hs8 0 rfl rfl (fun _ hs9 => ?_)
 refine WL.nil ?_
 refine WC.sr ?_
 refine WL.run tbk 3 hs9 [2] rfl ⟨rfl, trivial⟩ ?_
 refine WL.st tbk hs9 0 rfl rfl (fun _ hs10 => ?_)
 refine WL.nil ?_
 refine WC.sr ?_
 refine WL.run tbk 3 hs10 [2] rfl ⟨rfl, trivial⟩ ?_
 refine WL.st tbk hs10 0 rfl rfl (fun _ hs11 => ?_)
 refine WL.nil ?_
 refine WC.sr ?_
 refine WL.run tbk 2 hs11 [2] rfl ⟨rfl, trivial⟩ ?_
 refine WL.call rfl rfl rfl (Run.call Try.call35 rfl rfl rfl) (c_laws_toPaneS _ _ _ _ _ (SlN.st0 okPaneR.st0 f_a.Panes hs11) ?_) ?_
 · first | assumption | rfl | omega
 rintro _ whs12 ⟨A13, c14, xs15, L116, rfl, hs12, ho17, hd18⟩
 replace hs12 := hs11.callF hs12
 refine ⟨_, rfl, ?_⟩
 replace hs12 := St.back [_, _, _] hs12
 refine WL.run tbk 1 hs12 [] rfl trivial ?_
 refine WL.st tbk hs12 0 rfl rfl (fun _ hs19 => ?_)
 refine WL.nil ?_
 refine WC.sr ?_
 refine WL.run tbk 2 hs19 [2] rfl ⟨rfl, trivial⟩ ?_
 refine WL.call rfl rfl rfl (Run.call Try.call36 rfl rfl rfl) (c_laws_toWinS _ _ _ _ _ (SlN.st0 okWinR.st0 f_a.Wins hs19) ?_) ?_
 · first | assumption | rfl | omega
 rintro _ whs20 ⟨A21, c22, xs23, L124, rfl, hs20, ho25, hd26⟩
 replace hs20 := hs19.callF hs20
 refine ⟨_, rfl, ?_⟩
 replace hs20 := St.back [_, _, _] hs20
 refine WL.run tbk 1 hs20 [] rfl trivial ?_
 refine WL.st tbk hs20 0 rfl rfl (fun _ hs27 => ?_)
 refine WL.nil ?_
 refine WC.sr ?_
 refine WL.run tbk 2 hs27 [2] rfl ⟨rfl, trivial⟩ ?_
 refine WL.call rfl rfl rfl (Run.call Try.call37 rfl rfl rfl) (c_laws_toSessS _ _ _ _ _ (SlN.st0 okSessR.st0 f_a.Sess hs27) ?_) ?_
 · first | assumption | rfl | omega
 rintro _ whs28 ⟨A29, c30, xs31, L132, rfl, hs28, ho33, hd34⟩
 replace hs28 := hs27.callF hs28
 refine ⟨_, rfl, ?_⟩
 replace hs28 := St.back [_, _, _] hs28
 refine WL.run tbk 1 hs28 [] rfl trivial ?_
 refine WL.st tbk hs28 0 rfl rfl (fun _ hs35 => ?_)
 refine WL.nil ?_
 refine WC.sr ?_
 refine WL.run tbk 1 hs35 [0] rfl ⟨rfl, trivial⟩ ?_
 refine WL.st tbk hs35 1 rfl rfl (fun _ hs36 => ?_)
 refine WL.nil ?_
 refine WC.ret ?_
 refine retV1 rfl (resV.cellA tbk hs36 1 rfl rfl rfl rfl) ?_
 obtain ⟨L38, hs37, ho39⟩ := ownStateR.fold ⟨0, 0, 0, 0, ⟨_, _, _, _⟩, ⟨_, _, _, _⟩, ⟨_, _, _, _⟩⟩ (St.perm (St.perm (St.perm hs36 (L' := L132 ++ _) (perm_front (A := [_, _, _]) (List.Perm.refl _))) (L' := L124 ++ _) (perm_front (A := L132) (perm_front (A := [_, _, _]) (List.Perm.refl _)))) (L' := L116 ++ _) (perm_front (A := L124) (perm_front (A := L132) (perm_front (A := [_, _, _]) (List.Perm.refl _))))) ho17 ho25 ho33
 have hs40 := (St.perm (St.perm (St.perm hs37 (L' := [_] ++ _) (perm_front (A := L38) (perm_front (A := [_, _]) (List.Perm.refl _)))) (L' := [_] ++ _) (perm_front (A := [_]) (perm_front (A := L38) (perm_front (A := [_]) (List.Perm.refl _))))) (L' := [_] ++ _) (perm_front (A := [_, _]) (perm_front (A := L38) (List.Perm.refl _))))
 refine ⟨⟨a.W, a.H, a.Limit, a.Next, SlD.ofN ho17, SlD.ofN ho25, SlD.ofN ho33⟩, _, rfl, (St.keep1 (St.perm hs40 (L' := L38 ++ _) (perm_front (A := [_, _, _]) (List.Perm.refl _)))), ?_, ?_⟩
 · exact (by exact ho39)
 · exact StateD.ext' rfl rfl rfl rfl hd18 hd26 hd34
set_option maxHeartbeats 4000000 in
theorem c_laws_eqState (a : StateR) (b : StateR) (w : World) (f_a : okStateR 549755813888 w a) (f_b : okStateR 549755813888 w b) (hab : a.dat = b.dat) :
    Calls Try.prog 17 #[.agg #[i64 a.W, i64 a.H, i64 a.Limit, i64 a.Next, .slice a.Panes.A a.Panes.n a.Panes.c, .slice a.Wins.A a.Wins.n a.Wins.c, .slice a.Sess.A a.Sess.n a.Sess.c], .agg #[i64 b.W, i64 b.H, i64 b.Limit, i64 b.Next, .slice b.Panes.A b.Panes.n b.Panes.c, .slice b.Wins.A b.Wins.n b.Wins.c, .slice b.Sess.A b.Sess.n b.Sess.c]] w fun e w' => e = .returned (.bool true) ∧ St w [] [] w' := by
 have nb_a_Panes := f_a.Panes_n
 have nl_a_Panes := f_a.Panes.sl.len
 have nb_a_Wins := f_a.Wins_n
 have nl_a_Wins := f_a.Wins.sl.len
 have nb_a_Sess := f_a.Sess_n
 have nl_a_Sess := f_a.Sess.sl.len
 have nb_b_Panes := f_b.Panes_n
 have nl_b_Panes := f_b.Panes.sl.len
 have nb_b_Wins := f_b.Wins_n
 have nl_b_Wins := f_b.Wins.sl.len
 have nb_b_Sess := f_b.Sess_n
 have nl_b_Sess := f_b.Sess.sl.len
 have e_W : a.W = b.W := congrArg (fun d : StateD => d.W) hab
 have e_H : a.H = b.H := congrArg (fun d : StateD => d.H) hab
 have e_Limit : a.Limit = b.Limit := congrArg (fun d : StateD => d.Limit) hab
 have e_Next : a.Next = b.Next := congrArg (fun d : StateD => d.Next) hab
 have e_Panes : a.Panes.xs.map PaneR.dat = b.Panes.xs.map PaneR.dat := congrArg (fun d : StateD => d.Panes) hab
 have e_Wins : a.Wins.xs.map WinR.dat = b.Wins.xs.map WinR.dat := congrArg (fun d : StateD => d.Wins) hab
 have e_Sess : a.Sess.xs.map SessR.dat = b.Sess.xs.map SessR.dat := congrArg (fun d : StateD => d.Sess) hab
 refine enter (vs := [.agg #[i64 a.W, i64 a.H, i64 a.Limit, i64 a.Next, .slice a.Panes.A a.Panes.n a.Panes.c, .slice a.Wins.A a.Wins.n a.Wins.c, .slice a.Sess.A a.Sess.n a.Sess.c], .agg #[i64 b.W, i64 b.H, i64 b.Limit, i64 b.Next, .slice b.Panes.A b.Panes.n b.Panes.c, .slice b.Wins.A b.Wins.n b.Wins.c, .slice b.Sess.A b.Sess.n b.Sess.c]]) 43 Try.func17 rfl Try.ntmps17 rfl rfl ?_
 have hs1 := St.init w
 refine WC.sr ?_
 refine WL.bx hs1 rfl (fun b2 _ hs3 => ?_)
 refine WL.bx hs3 rfl (fun b4 _ hs5 => ?_)
 refine WL.run tbk 1 hs5 [] rfl trivial ?_
 refine WL.nil ?_
 refine WC.seq (fun K6 hK6 => ?_)
 refine WC.rr tbk hs5 [1, 0] rfl ⟨rfl, rfl, trivial⟩ ?_
 refine WC.condF rfl (by simp [e_W, e_H, e_Limit, e_Next]) ?_
 refine WC.skip ?_
 refine hK6 _ _ ?_
 refine WC.seq (fun K8 hK8 => ?_)
 refine WC.rr tbk hs5 [1, 0] rfl ⟨rfl, rfl, trivial⟩ ?_
 refine WC.condF rfl (by simp [e_W, e_H, e_Limit, e_Next]) ?_
 refine WC.skip ?_
 refine hK8 _ _ ?_
 refine WC.seq (fun K10 hK10 => ?_)
 refine WC.rr tbk hs5 [1, 0] rfl ⟨rfl, rfl, trivial⟩ ?_
 refine WC.condF rfl (by simp [e_W, e_H, e_Limit, e_Next]) ?_
 refine WC.skip ?_
 refine hK10 _ _ ?_
 refine WC.seq (fun K12 hK12 => ?_)
 refine WC.rr tbk hs5 [1, 0] rfl ⟨rfl, rfl, trivial⟩ ?_
 refine WC.condF rfl (by simp [e_W, e_H, e_Limit, e_Next]) ?_
 refine WC.skip ?_
 refine hK12 _ _ ?_
 refine WC.seq (fun K14 hK14 => ?_)
 refine WC.sr ?_
 refine WL.run tbk 4 hs5 [1, 0] rfl ⟨rfl, rfl, trivial⟩ ?_
 refine WL.call rfl rfl rfl (Run.call Try.call40 rfl rfl rfl) (c_laws_eqPaneS _ _ _ _ _ _ _ _ _ (SlN.st0 okPaneR.st0 f_a.Panes hs5) (SlN.st0 okPaneR.st0 f_b.Panes hs5) ?_ ?_) ?_
 · first | assumption | rfl | omega
 · first | assumption | rfl | omega
 rintro _ whs15 ⟨rfl, hs15⟩
 replace hs15 := hs5.call0 hs15
 refine ⟨_, rfl, ?_⟩
 refine WL.run tbk 1 hs15 [] rfl trivial ?_
 refine WL.nil ?_
 refine WC.condF rfl (by simp [e_W, e_H, e_Limit, e_Next]) ?_
 refine WC.skip ?_
 refine hK14 _ _ ?_
 refine WC.seq (fun K17 hK17 => ?_)
 refine WC.sr ?_
 refine WL.run tbk 4 hs15 [1, 0] rfl ⟨rfl, rfl, trivial⟩ ?_
 refine WL.call rfl rfl rfl (Run.call Try.call41 rfl rfl rfl) (c_laws_eqWinS _ _ _ _ _ _ _ _ _ (SlN.st0 okWinR.st0 f_a.Wins hs15) (SlN.st0 okWinR.st0 f_b.Wins hs15) ?_ ?_) ?_
 · first | assumption | rfl | omega
 · first | assumption | rfl | omega
 rintro _ whs18 ⟨rfl, hs18⟩
 replace hs18 := hs15.call0 hs18
 refine ⟨_, rfl, ?_⟩
 refine WL.run tbk 1 hs18 [] rfl trivial ?_
 refine WL.nil ?_
 refine WC.condF rfl (by simp [e_W, e_H, e_Limit, e_Next]) ?_
 refine WC.skip ?_
 refine hK17 _ _ ?_
 refine WC.seq (fun K20 hK20 => ?_)
 refine WC.sr ?_
 refine WL.run tbk 4 hs18 [1, 0] rfl ⟨rfl, rfl, trivial⟩ ?_
 refine WL.call rfl rfl rfl (Run.call Try.call42 rfl rfl rfl) (c_laws_eqSessS _ _ _ _ _ _ _ _ _ (SlN.st0 okSessR.st0 f_a.Sess hs18) (SlN.st0 okSessR.st0 f_b.Sess hs18) ?_ ?_) ?_
 · first | assumption | rfl | omega
 · first | assumption | rfl | omega
 rintro _ whs21 ⟨rfl, hs21⟩
 replace hs21 := hs18.call0 hs21
 refine ⟨_, rfl, ?_⟩
 refine WL.run tbk 1 hs21 [] rfl trivial ?_
 refine WL.nil ?_
 refine WC.condF rfl (by simp [e_W, e_H, e_Limit, e_Next]) ?_
 refine WC.skip ?_
 refine hK20 _ _ ?_
 refine WC.rr tbk hs21 [] rfl trivial ?_
 refine WC.ret ?_
 refine retV1 rfl (resV.tmp rfl) ?_
 refine ⟨congrArg Ending.returned ?_, hs21.nil⟩
 rfl
end Go.Proofs.Ytmkgffhdbagmjaa
