/- Walks of Go functions, printed by a program (wip/gen). -/
import Derived.Test.YtlmcekfdlgkffaaV2
namespace Go.Proofs.Ytlmcekfdlgkffaa
open Go Go.RowKit
set_option linter.unusedVariables false
set_option linter.unusedSimpArgs false
set_option maxHeartbeats 8000000 in
theorem c_laws_FnExactTermOk (aT : TermR) (w : World) (f_aT : okTermR 9223372036854775807 w aT) :
    Calls Try.prog 6 #[.agg #[i64 aT.P.State, .bool aT.P.Mark, .slice aT.P.Args.A aT.P.Args.n aT.P.Args.c, .slice aT.P.Part.A aT.P.Part.n aT.P.Part.c, i64 aT.S.W, i64 aT.S.H, i64 aT.S.Main.W, i64 aT.S.Main.H, .slice aT.S.Main.Cells.A aT.S.Main.Cells.n aT.S.Main.Cells.c, i64 aT.S.Alt.W, i64 aT.S.Alt.H, .slice aT.S.Alt.Cells.A aT.S.Alt.Cells.n aT.S.Alt.Cells.c, .bool aT.S.OnAlt, i64 aT.S.X, i64 aT.S.Y, .bool aT.S.Wrap, i64 aT.S.A.Fg, i64 aT.S.A.Bg, .bool aT.S.A.Bold, .bool aT.S.A.Under, .bool aT.S.A.Turn, i64 aT.S.Top, i64 aT.S.Bot, .bool aT.S.NoWrap, .bool aT.S.Hide, i64 aT.S.SaveX, i64 aT.S.SaveY, i64 aT.S.SaveA.Fg, i64 aT.S.SaveA.Bg, .bool aT.S.SaveA.Bold, .bool aT.S.SaveA.Under, .bool aT.S.SaveA.Turn, .slice aT.S.Tabs.A aT.S.Tabs.n aT.S.Tabs.c, i64 aT.S.Limit, .slice aT.S.Back.A aT.S.Back.n aT.S.Back.c]] w fun e w' => e = .returned (.bool true) ∧ St w [] [] w' := by
 have nb_aT_P_Args := f_aT.P.Args_n
 have nl_aT_P_Args := f_aT.P.Args.len
 have nb_aT_P_Part := f_aT.P.Part_n
 have nl_aT_P_Part := f_aT.P.Part.len
 have nb_aT_S_Main_Cells := f_aT.S.Main.Cells_n
 have nl_aT_S_Main_Cells := f_aT.S.Main.Cells.len
 have nb_aT_S_Alt_Cells := f_aT.S.Alt.Cells_n
 have nl_aT_S_Alt_Cells := f_aT.S.Alt.Cells.len
 have nb_aT_S_Tabs := f_aT.S.Tabs_n
 have nl_aT_S_Tabs := f_aT.S.Tabs.len
 have nb_aT_S_Back := f_aT.S.Back_n
 have nl_aT_S_Back := f_aT.S.Back.sl.len
 refine enter (vs := [.agg #[i64 aT.P.State, .bool aT.P.Mark, .slice aT.P.Args.A aT.P.Args.n aT.P.Args.c, .slice aT.P.Part.A aT.P.Part.n aT.P.Part.c, i64 aT.S.W, i64 aT.S.H, i64 aT.S.Main.W, i64 aT.S.Main.H, .slice aT.S.Main.Cells.A aT.S.Main.Cells.n aT.S.Main.Cells.c, i64 aT.S.Alt.W, i64 aT.S.Alt.H, .slice aT.S.Alt.Cells.A aT.S.Alt.Cells.n aT.S.Alt.Cells.c, .bool aT.S.OnAlt, i64 aT.S.X, i64 aT.S.Y, .bool aT.S.Wrap, i64 aT.S.A.Fg, i64 aT.S.A.Bg, .bool aT.S.A.Bold, .bool aT.S.A.Under, .bool aT.S.A.Turn, i64 aT.S.Top, i64 aT.S.Bot, .bool aT.S.NoWrap, .bool aT.S.Hide, i64 aT.S.SaveX, i64 aT.S.SaveY, i64 aT.S.SaveA.Fg, i64 aT.S.SaveA.Bg, .bool aT.S.SaveA.Bold, .bool aT.S.SaveA.Under, .bool aT.S.SaveA.Turn, .slice aT.S.Tabs.A aT.S.Tabs.n aT.S.Tabs.c, i64 aT.S.Limit, .slice aT.S.Back.A aT.S.Back.n aT.S.Back.c]]) 27 Try.func6 rfl Try.ntmps6 rfl rfl ?_
 have hs1 := St.init w
 refine WC.sr ?_
 refine WL.bx hs1 rfl (fun b2 _ hs3 => ?_)
 refine WL.run tbk 1 hs3 [] rfl trivial ?_
 refine WL.nil ?_
 refine WC.rr tbk hs3 [] rfl trivial ?_
 refine WC.sr ?_
 refine WL.run tbk 2 hs3 [0] rfl ⟨rfl, trivial⟩ ?_
 refine WL.call rfl rfl rfl (Run.call Try.call35 rfl rfl rfl) (c_laws_szTerm aT _ _ (okTermR.st0 f_aT hs3) ?_ ?_) ?_
 · first | (first | assumption | omega) | (first | assumption | omega | (simp only [endAct, endGrid, endScr, endTerm, endVp]; first | done | assumption | omega))
 · first | (first | assumption | omega | exact szR_b (by assumption) (by omega) (by first | assumption | omega)) | (first | assumption | omega | (simp only [endAct, endGrid, endScr, endTerm, endVp]; first | done | assumption | omega))
 rintro _ whs4 ⟨rfl, hs4⟩
 replace hs4 := hs3.call0 hs4
 refine ⟨_, rfl, ?_⟩
 refine WL.run tbk 1 hs4 [] rfl trivial ?_
 refine WL.nil ?_
 refine WC.seq (fun K5 hK5 => ?_)
 refine WC.rr tbk hs4 [] rfl trivial ?_
 refine WC.cD rfl (fun qh6 => ?_) (fun qh6 => ?_)
 ·refine WC.rr tbk hs4 [] rfl trivial ?_
  refine WC.ret ?_
  refine tkR ?_
  clear hK5
  refine retV1 rfl (resV.tmp rfl) ?_
  refine ⟨congrArg Ending.returned ?_, hs4.nil⟩
  rfl
 ·simp only [szR] at qh6
  have hb_aT : totTerm aT.dat ≤ 1048576 := by split at qh6 <;> omega
  have hsm_aT : smTerm 1048576 aT.dat := totTerm_sm hb_aT
  have hsB_aT : smTerm 1099511627776 aT.dat := totTerm_sm (by omega)
  have f_aT := f_aT.to hsB_aT
  refine WC.skip ?_
  refine hK5 _ _ ?_
  refine WC.sr ?_
  refine WL.run tbk 1 hs4 [0] rfl ⟨rfl, trivial⟩ ?_
  refine WL.call rfl rfl rfl (Run.call Try.call37 rfl rfl rfl) (c_laws_toTerm aT _ (okTermR.st0 f_aT hs4)) ?_
  rintro _ whs7 ⟨r8, L19, rfl, hs7, ho10, hd11⟩
  replace hs7 := hs4.callF hs7
  refine ⟨_, rfl, ?_⟩
  replace hs7 := St.back [_] hs7
  refine WL.call rfl rfl rfl (Run.call Try.call36 rfl rfl rfl) (c_spec_TermOk r8 _ (ownTermR.ok (B := 1099511627776) ho10 (fun p_ hp_ => (hs7.own p_ (List.mem_append_right [_] (List.mem_append_left _ hp_))).1) (by rw [hd11]; assumption))) ?_
  rintro _ whs12 ⟨rfl, hs12⟩
  replace hs12 := hs7.call0 hs12
  refine ⟨_, rfl, ?_⟩
  refine WL.run tbk 1 hs12 [] rfl trivial ?_
  refine WL.nil ?_
  refine WC.sr ?_
  refine WL.run tbk 1 hs12 [0] rfl ⟨rfl, trivial⟩ ?_
  refine WL.call rfl rfl rfl (Run.call Try.call37 rfl rfl rfl) (c_laws_toTerm aT _ (okTermR.st0 f_aT hs12)) ?_
  rintro _ whs13 ⟨r14, L115, rfl, hs13, ho16, hd17⟩
  try simp only [hd11] at hd17
  replace hs13 := hs12.callF hs13
  refine ⟨_, rfl, ?_⟩
  replace hs13 := St.back [_] hs13
  refine WL.al hs13 Try.zeroValue35 rfl rfl (fun b18 _ hs19 => ?_)
  refine WL.st tbk hs19 0 rfl rfl (fun _ hs20 => ?_)
  refine WL.nil ?_
  refine WC.sr ?_
  refine WL.run tbk 1 hs20 [0] rfl ⟨rfl, trivial⟩ ?_
  refine WL.call rfl rfl rfl (Run.call Try.call38 rfl rfl rfl) (c_impl_TermOk r14 _ (ownTermR.ok (B := 1099511627776) ho16 (fun p_ hp_ => (hs20.own p_ (List.mem_append_right [_, _] (List.mem_append_left _ hp_))).1) (by rw [hd17]; assumption))) ?_
  rintro _ whs21 ⟨rfl, hs21⟩
  replace hs21 := hs20.call0 hs21
  refine ⟨_, rfl, ?_⟩
  refine WL.run tbk 1 hs21 [] rfl trivial ?_
  refine WL.nil ?_
  refine WC.seq (fun K22 hK22 => ?_)
  refine WC.rr tbk hs21 [] rfl trivial ?_
  refine WC.condF rfl (by first | (simp; done) | (simp; omega) | (simp [hd11, hd17]; done) | (simp only [endAct, endGrid, endScr, endTerm, endVp]; simp; omega)) ?_
  refine WC.skip ?_
  refine hK22 _ _ ?_
  refine WC.seq (fun K24 hK24 => ?_)
  refine WC.seq (fun K25 hK25 => ?_)
  refine WC.regionH2 (fun w' => St _ _ _ w') (fun w' => St _ _ _ w') mixed (St.drew hs21) (St.drew hs21) (fun whs26 hs26 => ?_)
  replace hs26 : St _ _ _ _ := hs26
  refine WH.take 0 rfl (by kernel_rfl) rfl rfl rfl hs26 (fun w_ hs_ => (Run.loadLA (hs_ : St _ _ _ _) 0 Try.isAgg35 Try.sizeOf35 rfl rfl rfl rfl rfl)) ?_
  refine WH.take 1 rfl (by kernel_rfl) rfl rfl rfl hs26 (fun w_ hs_ => (Run.loadLA (hs_ : St _ _ _ _) 1 Try.isAgg70 Try.sizeOf70 rfl rfl rfl rfl rfl)) ?_
  refine WH.all [2] (by kernel_rfl) rfl (WHs.cons (i := 2) rfl ?_ WHs.nil)
  refine WL.call rfl rfl rfl (Run.call Try.call37 rfl rfl rfl) (c_laws_toTerm aT _ (okTermR.st0 f_aT hs26)) ?_
  rintro _ whs27 ⟨r28, L129, rfl, hs27, ho30, hd31⟩
  try simp only [hd11, hd17] at hd31
  replace hs27 := hs26.callF hs27
  refine ⟨_, rfl, ?_⟩
  replace hs27 := St.back [_, _] hs27
  refine WL.nil ⟨(St.drop (St.perm hs27 (L' := L129 ++ _) (perm_front (A := [_, _]) (List.Perm.refl _))) (List.sublist_append_right L129 _)), ?_⟩
  refine WH.all [3] (by kernel_rfl) rfl (WHs.cons (i := 3) rfl ?_ WHs.nil)
  refine WL.call rfl rfl rfl (Run.call Try.call14 rfl rfl rfl) (c_laws_eqTerm r14 r28 _ (ownTermR.ok (B := 1099511627776) ho16 (fun p_ hp_ => (hs27.own p_ (List.mem_append_right [_, _] (List.mem_append_right _ (List.mem_append_left _ hp_)))).1) (by rw [hd17]; assumption)) (ownTermR.ok (B := 1099511627776) ho30 (fun p_ hp_ => (hs27.own p_ (List.mem_append_right [_, _] (List.mem_append_left _ hp_))).1) (by rw [hd31]; assumption)) ?_) ?_
  · first | (first | assumption | rfl | omega) | (first | assumption | omega | (simp only [hd11, hd17, hd31, endAct, endGrid, endScr, endTerm, endVp]; first | done | assumption | omega))
  rintro _ whs32 ⟨rfl, hs32⟩
  replace hs32 := hs27.call0 hs32
  refine ⟨_, rfl, ?_⟩
  refine WL.nil ⟨(St.drop (St.perm hs32 (L' := L129 ++ _) (perm_front (A := [_, _]) (List.Perm.refl _))) (List.sublist_append_right L129 _)), ?_⟩
  refine WH.take 4 rfl (by kernel_rfl) rfl rfl rfl (St.drop (St.perm hs32 (L' := L129 ++ _) (perm_front (A := [_, _]) (List.Perm.refl _))) (List.sublist_append_right L129 _)) (fun w_ hs_ => (Run.not rfl rfl)) ?_
  refine WH.done (by kernel_rfl) ?_
  refine hK25 _ _ ?_
  refine WC.condF rfl (by first | (simp; done) | (simp; omega) | (simp [hd11, hd17, hd31]; done) | (simp only [endAct, endGrid, endScr, endTerm, endVp]; simp; omega)) ?_
  refine WC.skip ?_
  refine hK24 _ _ ?_
  refine WC.rr tbk hs32 [] rfl trivial ?_
  refine WC.ret ?_
  refine retV1 rfl (resV.tmp rfl) ?_
  refine ⟨congrArg Ending.returned ?_, hs32.nil⟩
  rfl
end Go.Proofs.Ytlmcekfdlgkffaa
