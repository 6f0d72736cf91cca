/- Walks of Go functions, printed by a program (wip/gen). -/
import Derived.Test.YtlmcekfdlgkffaaY3
import Derived.Test.YtlmcekfdlgkffaaH3
namespace Go.Proofs.Ytlmcekfdlgkffaa
open Go Go.RowKit
set_option linter.unusedVariables false
set_option linter.unusedSimpArgs false
set_option maxHeartbeats 8000000 in
theorem c_laws_FnExactTermBytes (aT : TermR) (w : World) (f_aT : okTermR 9223372036854775807 w aT) :
    Calls Try.prog 10 #[.agg #[i64 aT.P.State, .bool aT.P.Mark, .slice aT.P.Args.A aT.P.Args.n aT.P.Args.c, .slice aT.P.Part.A aT.P.Part.n aT.P.Part.c, i64 aT.S.W, i64 aT.S.H, i64 aT.S.Main.W, i64 aT.S.Main.H, .slice aT.S.Main.Cells.A aT.S.Main.Cells.n aT.S.Main.Cells.c, i64 aT.S.Alt.W, i64 aT.S.Alt.H, .slice aT.S.Alt.Cells.A aT.S.Alt.Cells.n aT.S.Alt.Cells.c, .bool aT.S.OnAlt, i64 aT.S.X, i64 aT.S.Y, .bool aT.S.Wrap, i64 aT.S.A.Fg, i64 aT.S.A.Bg, .bool aT.S.A.Bold, .bool aT.S.A.Under, .bool aT.S.A.Turn, i64 aT.S.Top, i64 aT.S.Bot, .bool aT.S.NoWrap, .bool aT.S.Hide, i64 aT.S.SaveX, i64 aT.S.SaveY, i64 aT.S.SaveA.Fg, i64 aT.S.SaveA.Bg, .bool aT.S.SaveA.Bold, .bool aT.S.SaveA.Under, .bool aT.S.SaveA.Turn, .slice aT.S.Tabs.A aT.S.Tabs.n aT.S.Tabs.c, i64 aT.S.Limit, .slice aT.S.Back.A aT.S.Back.n aT.S.Back.c]] w fun e w' => e = .returned (.bool true) ∧ St w [] [] w' := by
 have nb_aT_P_Args := f_aT.P.Args_n
 have nl_aT_P_Args := f_aT.P.Args.len
 have nb_aT_P_Part := f_aT.P.Part_n
 have nl_aT_P_Part := f_aT.P.Part.len
 have nb_aT_S_Main_Cells := f_aT.S.Main.Cells_n
 have nl_aT_S_Main_Cells := f_aT.S.Main.Cells.len
 have nb_aT_S_Alt_Cells := f_aT.S.Alt.Cells_n
 have nl_aT_S_Alt_Cells := f_aT.S.Alt.Cells.len
 have nb_aT_S_Tabs := f_aT.S.Tabs_n
 have nl_aT_S_Tabs := f_aT.S.Tabs.len
 have nb_aT_S_Back := f_aT.S.Back_n
 have nl_aT_S_Back := f_aT.S.Back.sl.len
 refine enter (vs := [.agg #[i64 aT.P.State, .bool aT.P.Mark, .slice aT.P.Args.A aT.P.Args.n aT.P.Args.c, .slice aT.P.Part.A aT.P.Part.n aT.P.Part.c, i64 aT.S.W, i64 aT.S.H, i64 aT.S.Main.W, i64 aT.S.Main.H, .slice aT.S.Main.Cells.A aT.S.Main.Cells.n aT.S.Main.Cells.c, i64 aT.S.Alt.W, i64 aT.S.Alt.H, .slice aT.S.Alt.Cells.A aT.S.Alt.Cells.n aT.S.Alt.Cells.c, .bool aT.S.OnAlt, i64 aT.S.X, i64 aT.S.Y, .bool aT.S.Wrap, i64 aT.S.A.Fg, i64 aT.S.A.Bg, .bool aT.S.A.Bold, .bool aT.S.A.Under, .bool aT.S.A.Turn, i64 aT.S.Top, i64 aT.S.Bot, .bool aT.S.NoWrap, .bool aT.S.Hide, i64 aT.S.SaveX, i64 aT.S.SaveY, i64 aT.S.SaveA.Fg, i64 aT.S.SaveA.Bg, .bool aT.S.SaveA.Bold, .bool aT.S.SaveA.Under, .bool aT.S.SaveA.Turn, .slice aT.S.Tabs.A aT.S.Tabs.n aT.S.Tabs.c, i64 aT.S.Limit, .slice aT.S.Back.A aT.S.Back.n aT.S.Back.c]]) 96 Try.func10 rfl Try.ntmps10 rfl rfl ?_
 have hs1 := St.init w
 refine WC.sr ?_
 refine WL.bx hs1 rfl (fun b2 _ hs3 => ?_)
 refine WL.run tbk 1 hs3 [] rfl trivial ?_
 refine WL.nil ?_
 refine WC.rr tbk hs3 [] rfl trivial ?_
 refine WC.sr ?_
 refine WL.run tbk 2 hs3 [0] rfl ⟨rfl, trivial⟩ ?_
 refine WL.call rfl rfl rfl (Run.call Try.call35 rfl rfl rfl) (c_laws_szTerm aT _ _ (okTermR.st0 f_aT hs3) ?_ ?_) ?_
 · first | (first | assumption | omega) | (first | assumption | omega | (simp only [endAct, endGrid, endScr, endTerm, endVp]; first | done | assumption | omega))
 · first | (first | assumption | omega | exact szR_b (by assumption) (by omega) (by first | assumption | omega)) | (first | assumption | omega | (simp only [endAct, endGrid, endScr, endTerm, endVp]; first | done | assumption | omega))
 rintro _ whs4 ⟨rfl, hs4⟩
 replace hs4 := hs3.call0 hs4
 refine ⟨_, rfl, ?_⟩
 refine WL.run tbk 1 hs4 [] rfl trivial ?_
 refine WL.nil ?_
 refine WC.seq (fun K5 hK5 => ?_)
 refine WC.rr tbk hs4 [] rfl trivial ?_
 refine WC.cD rfl (fun qh6 => ?_) (fun qh6 => ?_)
 ·refine WC.rr tbk hs4 [] rfl trivial ?_
  refine WC.ret ?_
  refine tkR ?_
  clear hK5
  refine retV1 rfl (resV.tmp rfl) ?_
  refine ⟨congrArg Ending.returned ?_, hs4.nil⟩
  rfl
 ·simp only [szR] at qh6
  have hb_aT : totTerm aT.dat ≤ 1048576 := by split at qh6 <;> omega
  have hsm_aT : smTerm 1048576 aT.dat := totTerm_sm hb_aT
  have hsB_aT : smTerm 549755813888 aT.dat := totTerm_sm (by omega)
  have f_aT := f_aT.to hsB_aT
  have hol := termOut_len aT.dat
  refine WC.skip ?_
  refine hK5 _ _ ?_
  refine WC.sr ?_
  refine WL.run tbk 1 hs4 [0] rfl ⟨rfl, trivial⟩ ?_
  refine WL.call rfl rfl rfl (Run.call Try.call37 rfl rfl rfl) (c_laws_toTerm aT _ (okTermR.st0 f_aT hs4)) ?_
  rintro _ whs7 ⟨r8, L1_9, rfl, hs7, ho10, hd11⟩
  replace hs7 := hs4.callF hs7
  refine ⟨_, rfl, ?_⟩
  replace hs7 := St.back [_] hs7
  refine WL.call rfl rfl rfl (Run.call Try.call56 rfl rfl rfl) (c_spec_TermBytes r8 _ (ownTermR.ok (B := 549755813888) ho10 (fun p_ hp_ => (hs7.own p_ (List.mem_append_right [_] (List.mem_append_left _ hp_))).1) (by rw [hd11]; assumption)) ?_) ?_
  · first | (first | assumption | rfl | omega) | (first | assumption | omega | (simp only [hd11, endAct, endGrid, endScr, endTerm, endVp]; first | done | assumption | omega))
  rintro _ whs12 ⟨A13, c14, L1_15, rfl, hs12, ho16⟩
  replace hs12 := hs7.callF hs12
  refine ⟨_, rfl, ?_⟩
  replace hs12 := St.back [_] hs12
  refine WL.run tbk 5 hs12 [] rfl trivial ?_
  refine WL.nil ?_
  refine WC.sr ?_
  refine WL.run tbk 1 hs12 [0] rfl ⟨rfl, trivial⟩ ?_
  refine WL.call rfl rfl rfl (Run.call Try.call37 rfl rfl rfl) (c_laws_toTerm aT _ (okTermR.st0 f_aT hs12)) ?_
  rintro _ whs17 ⟨r18, L1_19, rfl, hs17, ho20, hd21⟩
  try simp only [hd11] at hd21
  replace hs17 := hs12.callF hs17
  refine ⟨_, rfl, ?_⟩
  replace hs17 := St.back [_] hs17
  have el0 := endTerm_le 1 r18
  rw [hd21] at el0
  have eg0 := endTerm_ge 1 r18
  have eb0 : endTerm 1 r18 ≤ 549755813888 := by omega
  have en0_S_Back : r18.S.Back.xs.length ≤ 549755813888 := by have h1 := tots_len totRow (r18.S.Back.xs.map RowR.dat); rw [List.length_map] at h1; have h2 : totTerm r18.dat ≤ 1048576 := (by rw [hd21]; exact hb_aT); simp only [GridR.dat, ScrR.dat, TermR.dat, VpR.dat, totGrid, totScr, totTerm, totVp] at h2; omega
  refine WL.al hs17 Try.zeroValue35 rfl rfl (fun b22 _ hs23 => ?_)
  refine WL.st tbk hs23 0 rfl rfl (fun _ hs24 => ?_)
  refine WL.nil ?_
  refine WC.sr ?_
  refine WL.run tbk 1 hs24 [0] rfl ⟨rfl, trivial⟩ ?_
  refine WL.call rfl rfl rfl (Run.call Try.call57 rfl rfl rfl) (c_impl_TermBytes r18 _ (ownTermR.ok (B := 549755813888) ho20 (fun p_ hp_ => (hs24.own p_ (List.mem_append_right [_, _] (List.mem_append_left _ hp_))).1) (by rw [hd21]; assumption)) ?_) ?_
  · first | (first | assumption | rfl | omega) | (first | assumption | omega | (simp only [hd11, hd21, endAct, endGrid, endScr, endTerm, endVp]; first | done | assumption | omega))
  rintro _ whs25 ⟨A26, c27, L1_28, rfl, hs25, ho29⟩
  replace hs25 := hs24.callF hs25
  refine ⟨_, rfl, ?_⟩
  replace hs25 := St.back [_, _] hs25
  refine WL.run tbk 5 hs25 [] rfl trivial ?_
  refine WL.nil ?_
  refine WC.seq (fun K30 hK30 => ?_)
  refine WC.sr ?_
  refine WL.run tbk 2 hs25 [] rfl trivial ?_
  refine WL.call rfl rfl rfl (Run.call Try.call31 rfl rfl rfl) (c_laws_eqByteS _ _ _ _ _ _ _ _ _ (SlF.ofOwn ho29 (fun p_ hp_ => (hs25.own p_ (List.mem_append_right [_, _] (List.mem_append_left _ hp_))).1)) (SlF.ofOwn ho16 (fun p_ hp_ => (hs25.own p_ (List.mem_append_right [_, _] (List.mem_append_right _ (List.mem_append_right _ (List.mem_append_left _ hp_))))).1)) ?_ ?_) ?_
  · first | (first | assumption | rfl | omega) | (first | assumption | omega | (simp only [hd11, hd21, endAct, endGrid, endScr, endTerm, endVp]; first | done | assumption | omega))
  · first | (first | assumption | rfl | omega) | (first | assumption | omega | (simp only [hd11, hd21, endAct, endGrid, endScr, endTerm, endVp]; first | done | assumption | omega))
  rintro _ whs31 ⟨rfl, hs31⟩
  replace hs31 := hs25.call0 hs31
  refine ⟨_, rfl, ?_⟩
  refine WL.run tbk 2 hs31 [] rfl trivial ?_
  refine WL.pO tbk 3 Acts.nil hs31 [] rfl rfl rfl rfl (fun g_ => trivial) ?_
  refine WL.nil ?_
  refine WC.condF rfl (by first | (simp; done) | (simp; omega) | (simp [hd11, hd21]; done) | (simp [hd11, hd21]; omega) | (simp only [endAct, endGrid, endScr, endTerm, endVp]; simp; omega)) ?_
  refine WC.skip ?_
  refine hK30 _ _ ?_
  refine WC.seq (fun K33 hK33 => ?_)
  refine WC.seq (fun K34 hK34 => ?_)
  refine WC.regionH2 (fun w' => St _ _ _ w') (fun w' => St _ _ _ w') mixed (St.drew hs31) (St.drew hs31) (fun whs35 hs35 => ?_)
  replace hs35 : St _ _ _ _ := hs35
  refine WH.take 0 rfl (by kernel_rfl) rfl rfl rfl hs35 (fun w_ hs_ => (Run.loadLA (hs_ : St _ _ _ _) 0 Try.isAgg35 Try.sizeOf35 rfl rfl rfl rfl rfl)) ?_
  refine WH.take 1 rfl (by kernel_rfl) rfl rfl rfl hs35 (fun w_ hs_ => (Run.loadLA (hs_ : St _ _ _ _) 1 Try.isAgg70 Try.sizeOf70 rfl rfl rfl rfl rfl)) ?_
  refine WH.all [2] (by kernel_rfl) rfl (WHs.cons (i := 2) rfl ?_ WHs.nil)
  refine WL.call rfl rfl rfl (Run.call Try.call37 rfl rfl rfl) (c_laws_toTerm aT _ (okTermR.st0 f_aT hs35)) ?_
  rintro _ whs36 ⟨r37, L1_38, rfl, hs36, ho39, hd40⟩
  try simp only [hd11, hd21] at hd40
  replace hs36 := hs35.callF hs36
  refine ⟨_, rfl, ?_⟩
  replace hs36 := St.back [_, _] hs36
  refine WL.nil ⟨(St.drop (St.perm hs36 (L' := L1_38 ++ _) (perm_front (A := [_, _]) (List.Perm.refl _))) (List.sublist_append_right L1_38 _)), ?_⟩
  refine WH.all [3] (by kernel_rfl) rfl (WHs.cons (i := 3) rfl ?_ WHs.nil)
  refine WL.call rfl rfl rfl (Run.call Try.call14 rfl rfl rfl) (c_laws_eqTerm r18 r37 _ (ownTermR.ok (B := 549755813888) ho20 (fun p_ hp_ => (hs36.own p_ (List.mem_append_right [_, _] (List.mem_append_right _ (List.mem_append_right _ (List.mem_append_left _ hp_))))).1) (by rw [hd21]; assumption)) (ownTermR.ok (B := 549755813888) ho39 (fun p_ hp_ => (hs36.own p_ (List.mem_append_right [_, _] (List.mem_append_left _ hp_))).1) (by rw [hd40]; assumption)) ?_) ?_
  · first | (first | assumption | rfl | omega) | (first | assumption | omega | (simp only [hd11, hd21, hd40, endAct, endGrid, endScr, endTerm, endVp]; first | done | assumption | omega))
  rintro _ whs41 ⟨rfl, hs41⟩
  replace hs41 := hs36.call0 hs41
  refine ⟨_, rfl, ?_⟩
  refine WL.nil ⟨(St.drop (St.perm hs41 (L' := L1_38 ++ _) (perm_front (A := [_, _]) (List.Perm.refl _))) (List.sublist_append_right L1_38 _)), ?_⟩
  refine WH.take 4 rfl (by kernel_rfl) rfl rfl rfl (St.drop (St.perm hs41 (L' := L1_38 ++ _) (perm_front (A := [_, _]) (List.Perm.refl _))) (List.sublist_append_right L1_38 _)) (fun w_ hs_ => (Run.not rfl rfl)) ?_
  refine WH.done (by kernel_rfl) ?_
  refine hK34 _ _ ?_
  refine WC.condF rfl (by first | (simp; done) | (simp; omega) | (simp [hd11, hd21, hd40]; done) | (simp [hd11, hd21, hd40]; omega) | (simp only [endAct, endGrid, endScr, endTerm, endVp]; simp; omega)) ?_
  refine WC.skip ?_
  refine hK33 _ _ ?_
  refine WC.rr tbk hs41 [] rfl trivial ?_
  refine WC.sr ?_
  refine WL.run tbk 2 hs41 [0] rfl ⟨rfl, trivial⟩ ?_
  refine WL.call rfl rfl rfl (Run.call Try.call15 rfl rfl rfl) (c_laws_markTerm r18 _ _ _ ho20 (fun p_ hp_ => (hs41.own p_ (List.mem_append_right [_, _] (List.mem_append_right _ (List.mem_append_right _ (List.mem_append_left _ hp_))))).1) (St.nodupL (St.perm hs41 (L' := L1_19 ++ _) (perm_front (A := [_, _]) (perm_front (A := L1_38) (perm_front (A := L1_28) (List.Perm.refl _)))))) ?_ ?_ ?_) ?_
  · first | (first | assumption | omega) | (first | assumption | omega | (simp only [hd11, hd21, hd40, endAct, endGrid, endScr, endTerm, endVp]; first | done | assumption | omega))
  · first | (first | assumption | omega | (simp only [endGrid, endScr, endTerm, endVp]; omega)) | (first | assumption | omega | (simp only [hd11, hd21, hd40, endAct, endGrid, endScr, endTerm, endVp]; first | done | assumption | omega))
  · first | (first | assumption | omega) | (first | assumption | omega | (simp only [hd11, hd21, hd40, endAct, endGrid, endScr, endTerm, endVp]; first | done | assumption | omega))
  rintro _ whs43 ⟨L1_44, rfl, hs43, ho45⟩
  replace hs43 := St.lend (St.perm hs41 (L' := L1_19 ++ _) (perm_front (A := [_, _]) (perm_front (A := L1_38) (perm_front (A := L1_28) (List.Perm.refl _))))) hs43
  refine ⟨_, rfl, ?_⟩
  replace hs43 := St.back [_, _] hs43
  refine WL.run tbk 1 hs43 [] rfl trivial ?_
  refine WL.nil ?_
  refine WC.seq (fun K46 hK46 => ?_)
  refine WC.sr ?_
  refine WL.run tbk 3 hs43 [] rfl trivial ?_
  apply WL.gO 4 Acts.nil hs43 rfl
  ·intro g47 J48
   have qg47 := g47
   try simp only [bf, within_iff, within_not] at qg47
   refine WL.runA tbk 2 (Acts.nil.cons (j := 2) rfl g47) hs43 [] rfl trivial ?_
   refine WL.call (wantF rfl g47) rfl rfl (Run.call Try.call31 rfl rfl rfl) (c_laws_eqByteS _ _ _ _ _ _ _ _ _ (SlF.ofOwn ho29 (fun p_ hp_ => (hs43.own p_ (List.mem_append_right [_, _] (List.mem_append_right _ (List.mem_append_right _ (List.mem_append_left _ hp_))))).1)) (SlF.ofOwn ho16 (fun p_ hp_ => (hs43.own p_ (List.mem_append_right [_, _] (List.mem_append_right _ (List.mem_append_right _ (List.mem_append_right _ (List.mem_append_left _ hp_)))))).1)) ?_ ?_) ?_
   · first | (first | assumption | rfl | omega) | (first | assumption | omega | (simp only [hd11, hd21, hd40, endAct, endGrid, endScr, endTerm, endVp]; first | done | assumption | omega))
   · first | (first | assumption | rfl | omega) | (first | assumption | omega | (simp only [hd11, hd21, hd40, endAct, endGrid, endScr, endTerm, endVp]; first | done | assumption | omega))
   rintro _ whs49 ⟨rfl, hs49⟩
   replace hs49 := hs43.call0 hs49
   refine ⟨_, rfl, ?_⟩
   refine WL.runA tbk 1 (Acts.nil.cons (j := 2) rfl g47) hs49 [] rfl trivial ?_
   exact WL.eO 4 Acts.nil J48 hs49 g47 rfl rfl
  ·intro _ hs50
   refine WL.run tbk 1 hs50 [] rfl trivial ?_
   refine WL.pO tbk 3 Acts.nil hs50 [] rfl rfl rfl rfl (fun g_ => trivial) ?_
   refine WL.nil ?_
   refine WC.condF rfl (by first | (simp; done) | (simp; omega) | (simp [hd11, hd21, hd40]; done) | (simp [hd11, hd21, hd40]; omega) | (simp only [endAct, endGrid, endScr, endTerm, endVp]; simp; omega)) ?_
   refine WC.skip ?_
   refine hK46 _ _ ?_
   refine WC.rr tbk hs50 [] rfl trivial ?_
   refine WC.sr ?_
   refine WL.run tbk 2 hs50 [] rfl trivial ?_
   refine WL.call rfl rfl rfl (Run.call Try.call32 rfl rfl rfl) (c_laws_markByteS _ _ _ _ _ ho29 (fun p_ hp_ => (hs50.own p_ (List.mem_append_right [_, _] (List.mem_append_right _ (List.mem_append_right _ (List.mem_append_left _ hp_))))).1) ?_ ?_ ?_) ?_
   · first | (first | assumption | rfl | omega) | (first | assumption | omega | (simp only [hd11, hd21, hd40, endAct, endGrid, endScr, endTerm, endVp]; first | done | assumption | omega))
   · first | (first | assumption | rfl | omega) | (first | assumption | omega | (simp only [hd11, hd21, hd40, endAct, endGrid, endScr, endTerm, endVp]; first | done | assumption | omega))
   · first | (first | assumption | rfl | omega) | (first | assumption | omega | (simp only [hd11, hd21, hd40, endAct, endGrid, endScr, endTerm, endVp]; first | done | assumption | omega))
   rintro _ whs52 ⟨L1_53, rfl, hs52, ho54⟩
   replace hs52 := St.lend (St.perm hs50 (L' := L1_28 ++ _) (perm_front (A := [_, _]) (perm_front (A := L1_44) (perm_front (A := L1_38) (List.Perm.refl _))))) hs52
   refine ⟨_, rfl, ?_⟩
   replace hs52 := St.back [_, _] hs52
   refine WL.run tbk 1 hs52 [] rfl trivial ?_
   refine WL.nil ?_
   refine WC.rr tbk hs52 [] rfl trivial ?_
   refine WC.sr ?_
   refine WL.run tbk 2 hs52 [] rfl trivial ?_
   refine WL.call rfl rfl rfl (Run.call Try.call58 rfl rfl rfl) (c_laws_heldByteS _ _ _ _ _ _ _ (SlF.ofOwn ho54 (fun p_ hp_ => (hs52.own p_ (List.mem_append_right [_, _] (List.mem_append_left _ hp_))).1)) rfl ?_ ?_ ?_) ?_
   · first | (first | assumption | rfl | omega) | (first | assumption | omega | (simp only [hd11, hd21, hd40, endAct, endGrid, endScr, endTerm, endVp]; first | done | assumption | omega))
   · first | (first | assumption | rfl | omega) | (first | assumption | omega | (simp only [hd11, hd21, hd40, endAct, endGrid, endScr, endTerm, endVp]; first | done | assumption | omega))
   · first | (first | assumption | rfl | omega) | (first | assumption | omega | (simp only [hd11, hd21, hd40, endAct, endGrid, endScr, endTerm, endVp]; first | done | assumption | omega))
   rintro _ whs55 ⟨rfl, hs55⟩
   replace hs55 := hs52.call0 hs55
   refine ⟨_, rfl, ?_⟩
   refine WL.run tbk 1 hs55 [] rfl trivial ?_
   refine WL.nil ?_
   refine WC.seq (fun K56 hK56 => ?_)
   refine WC.rr tbk hs55 [] rfl trivial ?_
   refine WC.condF rfl (by first | (simp; done) | (simp; omega) | (simp [hd11, hd21, hd40]; done) | (simp [hd11, hd21, hd40]; omega) | (simp only [endAct, endGrid, endScr, endTerm, endVp]; simp; omega)) ?_
   refine WC.skip ?_
   refine hK56 _ _ ?_
   refine WC.seq (fun K58 hK58 => ?_)
   refine WC.rr tbk hs55 [] rfl trivial ?_
   refine WC.condF rfl (by first | (simp; done) | (simp; omega) | (simp [hd11, hd21, hd40]; done) | (simp [hd11, hd21, hd40]; omega) | (simp only [endAct, endGrid, endScr, endTerm, endVp]; simp; omega)) ?_
   refine WC.skip ?_
   refine hK58 _ _ ?_
   refine WC.sr ?_
   refine WL.run tbk 1 hs55 [1] rfl ⟨rfl, trivial⟩ ?_
   refine WL.call rfl rfl rfl (Run.call Try.call37 rfl rfl rfl) (c_laws_toTerm aT _ (okTermR.st0 f_aT hs55)) ?_
   rintro _ whs60 ⟨r61, L1_62, rfl, hs60, ho63, hd64⟩
   try simp only [hd11, hd21, hd40] at hd64
   replace hs60 := hs55.callF hs60
   refine ⟨_, rfl, ?_⟩
   replace hs60 := St.back [_, _] hs60
   refine WL.call rfl rfl rfl (Run.call Try.call57 rfl rfl rfl) (c_impl_TermBytes r61 _ (ownTermR.ok (B := 549755813888) ho63 (fun p_ hp_ => (hs60.own p_ (List.mem_append_right [_, _] (List.mem_append_left _ hp_))).1) (by rw [hd64]; assumption)) ?_) ?_
   · first | (first | assumption | rfl | omega) | (first | assumption | omega | (simp only [hd11, hd21, hd40, hd64, endAct, endGrid, endScr, endTerm, endVp]; first | done | assumption | omega))
   rintro _ whs65 ⟨A66, c67, L1_68, rfl, hs65, ho69⟩
   replace hs65 := hs60.callF hs65
   refine ⟨_, rfl, ?_⟩
   replace hs65 := St.back [_, _] hs65
   refine WL.run tbk 5 hs65 [] rfl trivial ?_
   refine WL.nil ?_
   refine WC.seq (fun K70 hK70 => ?_)
   refine WC.sr ?_
   refine WL.run tbk 2 hs65 [] rfl trivial ?_
   refine WL.call rfl rfl rfl (Run.call Try.call31 rfl rfl rfl) (c_laws_eqByteS _ _ _ _ _ _ _ _ _ (SlF.ofOwn ho69 (fun p_ hp_ => (hs65.own p_ (List.mem_append_right [_, _] (List.mem_append_left _ hp_))).1)) (SlF.ofOwn ho16 (fun p_ hp_ => (hs65.own p_ (List.mem_append_right [_, _] (List.mem_append_right _ (List.mem_append_right _ (List.mem_append_right _ (List.mem_append_right _ (List.mem_append_right _ (List.mem_append_left _ hp_)))))))).1)) ?_ ?_) ?_
   · first | (first | assumption | rfl | omega) | (first | assumption | omega | (simp only [hd11, hd21, hd40, hd64, endAct, endGrid, endScr, endTerm, endVp]; first | done | assumption | omega))
   · first | (first | assumption | rfl | omega) | (first | assumption | omega | (simp only [hd11, hd21, hd40, hd64, endAct, endGrid, endScr, endTerm, endVp]; first | done | assumption | omega))
   rintro _ whs71 ⟨rfl, hs71⟩
   replace hs71 := hs65.call0 hs71
   refine ⟨_, rfl, ?_⟩
   refine WL.run tbk 2 hs71 [] rfl trivial ?_
   refine WL.pO tbk 3 Acts.nil hs71 [] rfl rfl rfl rfl (fun g_ => trivial) ?_
   refine WL.nil ?_
   refine WC.condF rfl (by first | (simp; done) | (simp; omega) | (simp [hd11, hd21, hd40, hd64]; done) | (simp [hd11, hd21, hd40, hd64]; omega) | (simp only [endAct, endGrid, endScr, endTerm, endVp]; simp; omega)) ?_
   refine WC.skip ?_
   refine hK70 _ _ ?_
   refine WC.rr tbk hs71 [] rfl trivial ?_
   refine WC.sr ?_
   refine WL.run tbk 2 hs71 [] rfl trivial ?_
   refine WL.call rfl rfl rfl (Run.call Try.call58 rfl rfl rfl) (c_laws_heldByteS _ _ _ _ _ _ _ (SlF.ofOwn ho54 (fun p_ hp_ => (hs71.own p_ (List.mem_append_right [_, _] (List.mem_append_right _ (List.mem_append_right _ (List.mem_append_left _ hp_))))).1)) rfl ?_ ?_ ?_) ?_
   · first | (first | assumption | rfl | omega) | (first | assumption | omega | (simp only [hd11, hd21, hd40, hd64, endAct, endGrid, endScr, endTerm, endVp]; first | done | assumption | omega))
   · first | (first | assumption | rfl | omega) | (first | assumption | omega | (simp only [hd11, hd21, hd40, hd64, endAct, endGrid, endScr, endTerm, endVp]; first | done | assumption | omega))
   · first | (first | assumption | rfl | omega) | (first | assumption | omega | (simp only [hd11, hd21, hd40, hd64, endAct, endGrid, endScr, endTerm, endVp]; first | done | assumption | omega))
   rintro _ whs73 ⟨rfl, hs73⟩
   replace hs73 := hs71.call0 hs73
   refine ⟨_, rfl, ?_⟩
   refine WL.run tbk 1 hs73 [] rfl trivial ?_
   refine WL.nil ?_
   refine WC.seq (fun K74 hK74 => ?_)
   refine WC.rr tbk hs73 [] rfl trivial ?_
   refine WC.condF rfl (by first | (simp; done) | (simp; omega) | (simp [hd11, hd21, hd40, hd64]; done) | (simp [hd11, hd21, hd40, hd64]; omega) | (simp only [endAct, endGrid, endScr, endTerm, endVp]; simp; omega)) ?_
   refine WC.skip ?_
   refine hK74 _ _ ?_
   refine WC.seq (fun K76 hK76 => ?_)
   refine WC.rr tbk hs73 [] rfl trivial ?_
   refine WC.condF rfl (by first | (simp; done) | (simp; omega) | (simp [hd11, hd21, hd40, hd64]; done) | (simp [hd11, hd21, hd40, hd64]; omega) | (simp only [endAct, endGrid, endScr, endTerm, endVp]; simp; omega)) ?_
   refine WC.skip ?_
   refine hK76 _ _ ?_
   refine WC.rr tbk hs73 [] rfl trivial ?_
   refine WC.ret ?_
   refine retV1 rfl (resV.tmp rfl) ?_
   refine ⟨congrArg Ending.returned ?_, hs73.nil⟩
   rfl
end Go.Proofs.Ytlmcekfdlgkffaa
