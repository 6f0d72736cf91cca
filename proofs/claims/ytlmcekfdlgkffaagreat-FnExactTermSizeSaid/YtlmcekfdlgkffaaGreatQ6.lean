/- Walks of Go functions, printed by a program (wip/gen). -/
import Derived.Test.YtlmcekfdlgkffaaGreatX9
import Derived.Test.YtlmcekfdlgkffaaGreatH4
namespace Go.Proofs.YtlmcekfdlgkffaaGreat
open Go Go.RowKit
set_option linter.unusedVariables false
set_option linter.unusedSimpArgs false
set_option maxHeartbeats 8000000 in
theorem c_laws_FnExactTermSize (aT : TermR) (aW : Int) (aH : Int) (w : World) (f_aT : okTermR 9223372036854775807 w aT) :
    Calls Tryz.prog 3 #[.agg #[i64 aT.P.State, .bool aT.P.Mark, .slice aT.P.Args.A aT.P.Args.n aT.P.Args.c, .slice aT.P.Part.A aT.P.Part.n aT.P.Part.c, i64 aT.S.W, i64 aT.S.H, i64 aT.S.Main.W, i64 aT.S.Main.H, .slice aT.S.Main.Cells.A aT.S.Main.Cells.n aT.S.Main.Cells.c, i64 aT.S.Alt.W, i64 aT.S.Alt.H, .slice aT.S.Alt.Cells.A aT.S.Alt.Cells.n aT.S.Alt.Cells.c, .bool aT.S.OnAlt, i64 aT.S.X, i64 aT.S.Y, .bool aT.S.Wrap, i64 aT.S.A.Fg, i64 aT.S.A.Bg, .bool aT.S.A.Bold, .bool aT.S.A.Under, .bool aT.S.A.Turn, i64 aT.S.Top, i64 aT.S.Bot, .bool aT.S.NoWrap, .bool aT.S.Hide, i64 aT.S.SaveX, i64 aT.S.SaveY, i64 aT.S.SaveA.Fg, i64 aT.S.SaveA.Bg, .bool aT.S.SaveA.Bold, .bool aT.S.SaveA.Under, .bool aT.S.SaveA.Turn, .slice aT.S.Tabs.A aT.S.Tabs.n aT.S.Tabs.c, i64 aT.S.Limit, .slice aT.S.Back.A aT.S.Back.n aT.S.Back.c], i64 aW, i64 aH] w fun e w' => e = .returned (.bool true) ∧ St w [] [] w' := by
 have nb_aT_P_Args := f_aT.P.Args_n
 have nl_aT_P_Args := f_aT.P.Args.len
 have nb_aT_P_Part := f_aT.P.Part_n
 have nl_aT_P_Part := f_aT.P.Part.len
 have nb_aT_S_Main_Cells := f_aT.S.Main.Cells_n
 have nl_aT_S_Main_Cells := f_aT.S.Main.Cells.len
 have nb_aT_S_Alt_Cells := f_aT.S.Alt.Cells_n
 have nl_aT_S_Alt_Cells := f_aT.S.Alt.Cells.len
 have nb_aT_S_Tabs := f_aT.S.Tabs_n
 have nl_aT_S_Tabs := f_aT.S.Tabs.len
 have nb_aT_S_Back := f_aT.S.Back_n
 have nl_aT_S_Back := f_aT.S.Back.sl.len
 refine enter (vs := [.agg #[i64 aT.P.State, .bool aT.P.Mark, .slice aT.P.Args.A aT.P.Args.n aT.P.Args.c, .slice aT.P.Part.A aT.P.Part.n aT.P.Part.c, i64 aT.S.W, i64 aT.S.H, i64 aT.S.Main.W, i64 aT.S.Main.H, .slice aT.S.Main.Cells.A aT.S.Main.Cells.n aT.S.Main.Cells.c, i64 aT.S.Alt.W, i64 aT.S.Alt.H, .slice aT.S.Alt.Cells.A aT.S.Alt.Cells.n aT.S.Alt.Cells.c, .bool aT.S.OnAlt, i64 aT.S.X, i64 aT.S.Y, .bool aT.S.Wrap, i64 aT.S.A.Fg, i64 aT.S.A.Bg, .bool aT.S.A.Bold, .bool aT.S.A.Under, .bool aT.S.A.Turn, i64 aT.S.Top, i64 aT.S.Bot, .bool aT.S.NoWrap, .bool aT.S.Hide, i64 aT.S.SaveX, i64 aT.S.SaveY, i64 aT.S.SaveA.Fg, i64 aT.S.SaveA.Bg, .bool aT.S.SaveA.Bold, .bool aT.S.SaveA.Under, .bool aT.S.SaveA.Turn, .slice aT.S.Tabs.A aT.S.Tabs.n aT.S.Tabs.c, i64 aT.S.Limit, .slice aT.S.Back.A aT.S.Back.n aT.S.Back.c], i64 aW, i64 aH]) 106 Tryz.func3 rfl Tryz.ntmps3 rfl rfl ?_
 have hs1 := St.init w
 refine WC.sr ?_
 refine WL.bx hs1 rfl (fun b2 _ hs3 => ?_)
 refine WL.run tbk 1 hs3 [] rfl trivial ?_
 refine WL.nil ?_
 refine WC.rr tbk hs3 [] rfl trivial ?_
 refine WC.sr ?_
 refine WL.run tbk 2 hs3 [0] rfl ⟨rfl, trivial⟩ ?_
 refine WL.call rfl rfl rfl (Run.call Tryz.call12 rfl rfl rfl) (c_laws_szTerm aT _ _ (okTermR.st0 f_aT hs3) ?_ ?_) ?_
 · first | (first | assumption | omega) | (first | assumption | omega | (simp only [endAct, endGrid, endScr, endTerm, endVp]; first | done | assumption | omega))
 · first | (first | assumption | omega | exact szR_b (by assumption) (by omega) (by first | assumption | omega)) | (first | assumption | omega | (simp only [endAct, endGrid, endScr, endTerm, endVp]; first | done | assumption | omega))
 rintro _ whs4 ⟨rfl, hs4⟩
 replace hs4 := hs3.call0 hs4
 refine ⟨_, rfl, ?_⟩
 refine WL.run tbk 1 hs4 [] rfl trivial ?_
 refine WL.nil ?_
 refine WC.seq (fun K5 hK5 => ?_)
 refine WC.rr tbk hs4 [] rfl trivial ?_
 refine WC.cD rfl (fun qh6 => ?_) (fun qh6 => ?_)
 ·refine WC.rr tbk hs4 [] rfl trivial ?_
  refine WC.ret ?_
  refine tkR ?_
  clear hK5
  refine retV1 rfl (resV.tmp rfl) ?_
  refine ⟨congrArg Ending.returned ?_, hs4.nil⟩
  rfl
 ·simp only [szR] at qh6
  have hb_aT : totTerm aT.dat ≤ 1048576 := by split at qh6 <;> omega
  have hsm_aT : smTerm 1048576 aT.dat := totTerm_sm hb_aT
  have hsB_aT : smTerm 549755813888 aT.dat := totTerm_sm (by omega)
  have f_aT := f_aT.to hsB_aT
  have hT := termSizeRes_tot (t := aT.dat) (w := aW) (h := aH) hb_aT
  have hTB : smTerm 549755813888 (termSizeRes aT.dat aW aH) := totTerm_sm (by omega)
  refine WC.skip ?_
  refine hK5 _ _ ?_
  refine WC.sr ?_
  refine WL.run tbk 1 hs4 [0] rfl ⟨rfl, trivial⟩ ?_
  refine WL.call rfl rfl rfl (Run.call Tryz.call14 rfl rfl rfl) (c_laws_toTerm aT _ (okTermR.st0 f_aT hs4)) ?_
  rintro _ whs7 ⟨r8, L1_9, rfl, hs7, ho10, hd11⟩
  replace hs7 := hs4.callF hs7
  refine ⟨_, rfl, ?_⟩
  replace hs7 := St.back [_] hs7
  refine WL.run tbk 2 hs7 [] rfl trivial ?_
  refine WL.call rfl rfl rfl (Run.call Tryz.call13 rfl rfl rfl) (c_spec_TermSize r8 _ _ _ (ownTermR.ok (B := 549755813888) ho10 (fun p_ hp_ => (hs7.own p_ (List.mem_append_right [_] (List.mem_append_left _ hp_))).1) (by rw [hd11]; assumption)) ?_) ?_
  · first | (first | assumption | rfl | omega) | (first | assumption | omega | (simp only [hd11, endAct, endGrid, endScr, endTerm, endVp]; first | done | assumption | omega))
  rintro _ whs12 ⟨r0_13, L0_14, rfl, hs12, ho15, hd0_16⟩
  try simp only [hd11] at hd0_16
  replace hs12 := hs7.callF hs12
  refine ⟨_, rfl, ?_⟩
  replace hs12 := St.back [_] hs12
  refine WL.run tbk 3 hs12 [] rfl trivial ?_
  refine WL.al hs12 Tryz.zeroValue46 rfl rfl (fun b17 _ hs18 => ?_)
  refine WL.st tbk hs18 0 rfl rfl (fun _ hs19 => ?_)
  refine WL.run tbk 1 hs19 [] rfl trivial ?_
  refine WL.nil ?_
  refine WC.sr ?_
  refine WL.run tbk 1 hs19 [1] rfl ⟨rfl, trivial⟩ ?_
  refine WL.call rfl rfl rfl (Run.call Tryz.call14 rfl rfl rfl) (c_laws_toTerm aT _ (okTermR.st0 f_aT hs19)) ?_
  rintro _ whs20 ⟨r21, L1_22, rfl, hs20, ho23, hd24⟩
  try simp only [hd11, hd0_16] at hd24
  replace hs20 := hs19.callF hs20
  refine ⟨_, rfl, ?_⟩
  replace hs20 := St.back [_, _] hs20
  have el0 := endTerm_le 1 r21
  rw [hd24] at el0
  have eg0 := endTerm_ge 1 r21
  have eb0 : endTerm 1 r21 ≤ 549755813888 := by omega
  have en0_S_Back : r21.S.Back.xs.length ≤ 549755813888 := by have h1 := tots_len totRow (r21.S.Back.xs.map RowR.dat); rw [List.length_map] at h1; have h2 : totTerm r21.dat ≤ 1048576 := (by rw [hd24]; exact hb_aT); simp only [GridR.dat, ScrR.dat, TermR.dat, VpR.dat, totGrid, totScr, totTerm, totVp] at h2; omega
  refine WL.al hs20 Tryz.zeroValue46 rfl rfl (fun b25 _ hs26 => ?_)
  refine WL.st tbk hs26 0 rfl rfl (fun _ hs27 => ?_)
  refine WL.nil ?_
  refine WC.sr ?_
  refine WL.run tbk 3 hs27 [0] rfl ⟨rfl, trivial⟩ ?_
  refine WL.call rfl rfl rfl (Run.call Tryz.call15 rfl rfl rfl) (c_impl_TermSize r21 _ _ _ (ownTermR.ok (B := 549755813888) ho23 (fun p_ hp_ => (hs27.own p_ (List.mem_append_right [_, _, _] (List.mem_append_left _ hp_))).1) (by rw [hd24]; assumption)) ?_) ?_
  · first | (first | assumption | rfl | omega) | (first | assumption | omega | (simp only [hd11, hd0_16, hd24, endAct, endGrid, endScr, endTerm, endVp]; first | done | assumption | omega))
  rintro _ whs28 ⟨r0_29, L0_30, rfl, hs28, ho31, hd0_32⟩
  try simp only [hd11, hd0_16, hd24] at hd0_32
  replace hs28 := hs27.callF hs28
  refine ⟨_, rfl, ?_⟩
  replace hs28 := St.back [_, _, _] hs28
  have el1 := endTerm_le 1 r0_29
  rw [hd0_32] at el1
  have eg1 := endTerm_ge 1 r0_29
  have eb1 : endTerm 1 r0_29 ≤ 549755813888 := by omega
  have en1_S_Back : r0_29.S.Back.xs.length ≤ 549755813888 := by have h1 := tots_len totRow (r0_29.S.Back.xs.map RowR.dat); rw [List.length_map] at h1; have h2 : totTerm r0_29.dat ≤ 1068690 := (by rw [hd0_32]; exact hT); simp only [GridR.dat, ScrR.dat, TermR.dat, VpR.dat, totGrid, totScr, totTerm, totVp] at h2; omega
  refine WL.run tbk 3 hs28 [] rfl trivial ?_
  refine WL.al hs28 Tryz.zeroValue46 rfl rfl (fun b33 _ hs34 => ?_)
  refine WL.st tbk hs34 0 rfl rfl (fun _ hs35 => ?_)
  refine WL.run tbk 1 hs35 [] rfl trivial ?_
  refine WL.nil ?_
  refine WC.seq (fun K36 hK36 => ?_)
  refine WC.sr ?_
  refine WL.run tbk 2 hs35 [0, 2] rfl ⟨rfl, rfl, trivial⟩ ?_
  refine WL.call rfl rfl rfl (Run.call Tryz.call16 rfl rfl rfl) (c_laws_eqTerm r0_29 r0_13 _ (ownTermR.ok (B := 549755813888) ho31 (fun p_ hp_ => (hs35.own p_ (List.mem_append_right [_, _, _, _] (List.mem_append_left _ hp_))).1) (by rw [hd0_32]; assumption)) (ownTermR.ok (B := 549755813888) ho15 (fun p_ hp_ => (hs35.own p_ (List.mem_append_right [_, _, _, _] (List.mem_append_right _ (List.mem_append_right _ (List.mem_append_left _ hp_))))).1) (by rw [hd0_16]; assumption)) ?_) ?_
  · first | (first | assumption | rfl | omega) | (first | assumption | omega | (simp only [hd11, hd0_16, hd24, hd0_32, endAct, endGrid, endScr, endTerm, endVp]; first | done | assumption | omega))
  rintro _ whs37 ⟨rfl, hs37⟩
  replace hs37 := hs35.call0 hs37
  refine ⟨_, rfl, ?_⟩
  refine WL.run tbk 2 hs37 [] rfl trivial ?_
  refine WL.pO tbk 3 Acts.nil hs37 [] rfl rfl rfl rfl (fun g_ => trivial) ?_
  refine WL.nil ?_
  refine WC.condF rfl (by first | (simp; done) | (simp; omega) | (simp [hd11, hd0_16, hd24, hd0_32]; done) | (simp [hd11, hd0_16, hd24, hd0_32]; omega) | (simp only [endAct, endGrid, endScr, endTerm, endVp]; simp; omega)) ?_
  refine WC.skip ?_
  refine hK36 _ _ ?_
  refine WC.seq (fun K39 hK39 => ?_)
  refine WC.seq (fun K40 hK40 => ?_)
  refine WC.regionH2 (fun w' => St _ _ _ w') (fun w' => St _ _ _ w') mixed (St.drew hs37) (St.drew hs37) (fun whs41 hs41 => ?_)
  replace hs41 : St _ _ _ _ := hs41
  refine WH.take 0 rfl (by kernel_rfl) rfl rfl rfl hs41 (fun w_ hs_ => (Run.loadLA (hs_ : St _ _ _ _) 1 Tryz.isAgg46 Tryz.sizeOf46 rfl rfl rfl rfl rfl)) ?_
  refine WH.take 1 rfl (by kernel_rfl) rfl rfl rfl hs41 (fun w_ hs_ => (Run.loadLA (hs_ : St _ _ _ _) 3 Tryz.isAgg35 Tryz.sizeOf35 rfl rfl rfl rfl rfl)) ?_
  refine WH.all [2] (by kernel_rfl) rfl (WHs.cons (i := 2) rfl ?_ WHs.nil)
  refine WL.call rfl rfl rfl (Run.call Tryz.call14 rfl rfl rfl) (c_laws_toTerm aT _ (okTermR.st0 f_aT hs41)) ?_
  rintro _ whs42 ⟨r43, L1_44, rfl, hs42, ho45, hd46⟩
  try simp only [hd11, hd0_16, hd24, hd0_32] at hd46
  replace hs42 := hs41.callF hs42
  refine ⟨_, rfl, ?_⟩
  replace hs42 := St.back [_, _, _, _] hs42
  refine WL.nil ⟨(St.drop (St.perm hs42 (L' := L1_44 ++ _) (perm_front (A := [_, _, _, _]) (List.Perm.refl _))) (List.sublist_append_right L1_44 _)), ?_⟩
  refine WH.all [3] (by kernel_rfl) rfl (WHs.cons (i := 3) rfl ?_ WHs.nil)
  refine WL.call rfl rfl rfl (Run.call Tryz.call16 rfl rfl rfl) (c_laws_eqTerm r21 r43 _ (ownTermR.ok (B := 549755813888) ho23 (fun p_ hp_ => (hs42.own p_ (List.mem_append_right [_, _, _, _] (List.mem_append_right _ (List.mem_append_right _ (List.mem_append_left _ hp_))))).1) (by rw [hd24]; assumption)) (ownTermR.ok (B := 549755813888) ho45 (fun p_ hp_ => (hs42.own p_ (List.mem_append_right [_, _, _, _] (List.mem_append_left _ hp_))).1) (by rw [hd46]; assumption)) ?_) ?_
  · first | (first | assumption | rfl | omega) | (first | assumption | omega | (simp only [hd11, hd0_16, hd24, hd0_32, hd46, endAct, endGrid, endScr, endTerm, endVp]; first | done | assumption | omega))
  rintro _ whs47 ⟨rfl, hs47⟩
  replace hs47 := hs42.call0 hs47
  refine ⟨_, rfl, ?_⟩
  refine WL.nil ⟨(St.drop (St.perm hs47 (L' := L1_44 ++ _) (perm_front (A := [_, _, _, _]) (List.Perm.refl _))) (List.sublist_append_right L1_44 _)), ?_⟩
  refine WH.take 4 rfl (by kernel_rfl) rfl rfl rfl (St.drop (St.perm hs47 (L' := L1_44 ++ _) (perm_front (A := [_, _, _, _]) (List.Perm.refl _))) (List.sublist_append_right L1_44 _)) (fun w_ hs_ => (Run.not rfl rfl)) ?_
  refine WH.done (by kernel_rfl) ?_
  refine hK40 _ _ ?_
  refine WC.condF rfl (by first | (simp; done) | (simp; omega) | (simp [hd11, hd0_16, hd24, hd0_32, hd46]; done) | (simp [hd11, hd0_16, hd24, hd0_32, hd46]; omega) | (simp only [endAct, endGrid, endScr, endTerm, endVp]; simp; omega)) ?_
  refine WC.skip ?_
  refine hK39 _ _ ?_
  refine WC.rr tbk hs47 [] rfl trivial ?_
  refine WC.sr ?_
  refine WL.run tbk 2 hs47 [1] rfl ⟨rfl, trivial⟩ ?_
  refine WL.call rfl rfl rfl (Run.call Tryz.call17 rfl rfl rfl) (c_laws_markTerm r21 _ _ _ ho23 (fun p_ hp_ => (hs47.own p_ (List.mem_append_right [_, _, _, _] (List.mem_append_right _ (List.mem_append_right _ (List.mem_append_left _ hp_))))).1) (St.nodupL (St.perm hs47 (L' := L1_22 ++ _) (perm_front (A := [_, _, _, _]) (perm_front (A := L1_44) (perm_front (A := L0_30) (List.Perm.refl _)))))) ?_ ?_ ?_) ?_
  · first | (first | assumption | omega) | (first | assumption | omega | (simp only [hd11, hd0_16, hd24, hd0_32, hd46, endAct, endGrid, endScr, endTerm, endVp]; first | done | assumption | omega))
  · first | (first | assumption | omega | (simp only [endGrid, endScr, endTerm, endVp]; omega)) | (first | assumption | omega | (simp only [hd11, hd0_16, hd24, hd0_32, hd46, endAct, endGrid, endScr, endTerm, endVp]; first | done | assumption | omega))
  · first | (first | assumption | omega) | (first | assumption | omega | (simp only [hd11, hd0_16, hd24, hd0_32, hd46, endAct, endGrid, endScr, endTerm, endVp]; first | done | assumption | omega))
  rintro _ whs49 ⟨L1_50, rfl, hs49, ho51⟩
  replace hs49 := St.lend (St.perm hs47 (L' := L1_22 ++ _) (perm_front (A := [_, _, _, _]) (perm_front (A := L1_44) (perm_front (A := L0_30) (List.Perm.refl _))))) hs49
  refine ⟨_, rfl, ?_⟩
  replace hs49 := St.back [_, _, _, _] hs49
  refine WL.run tbk 1 hs49 [] rfl trivial ?_
  refine WL.nil ?_
  refine WC.seq (fun K52 hK52 => ?_)
  refine WC.sr ?_
  refine WL.run tbk 3 hs49 [] rfl trivial ?_
  apply WL.gO 4 Acts.nil hs49 rfl
  ·intro g53 J54
   have qg53 := g53
   try simp only [bf, within_iff, within_not] at qg53
   refine WL.runA tbk 2 (Acts.nil.cons (j := 2) rfl g53) hs49 [0, 2] rfl ⟨rfl, rfl, trivial⟩ ?_
   refine WL.call (wantF rfl g53) rfl rfl (Run.call Tryz.call16 rfl rfl rfl) (c_laws_eqTerm r0_29 r0_13 _ (ownTermR.ok (B := 549755813888) ho31 (fun p_ hp_ => (hs49.own p_ (List.mem_append_right [_, _, _, _] (List.mem_append_right _ (List.mem_append_right _ (List.mem_append_left _ hp_))))).1) (by rw [hd0_32]; assumption)) (ownTermR.ok (B := 549755813888) ho15 (fun p_ hp_ => (hs49.own p_ (List.mem_append_right [_, _, _, _] (List.mem_append_right _ (List.mem_append_right _ (List.mem_append_right _ (List.mem_append_left _ hp_)))))).1) (by rw [hd0_16]; assumption)) ?_) ?_
   · first | (first | assumption | rfl | omega) | (first | assumption | omega | (simp only [hd11, hd0_16, hd24, hd0_32, hd46, endAct, endGrid, endScr, endTerm, endVp]; first | done | assumption | omega))
   rintro _ whs55 ⟨rfl, hs55⟩
   replace hs55 := hs49.call0 hs55
   refine ⟨_, rfl, ?_⟩
   refine WL.runA tbk 1 (Acts.nil.cons (j := 2) rfl g53) hs55 [] rfl trivial ?_
   exact WL.eO 4 Acts.nil J54 hs55 g53 rfl rfl
  ·intro _ hs56
   refine WL.run tbk 1 hs56 [] rfl trivial ?_
   refine WL.pO tbk 3 Acts.nil hs56 [] rfl rfl rfl rfl (fun g_ => trivial) ?_
   refine WL.nil ?_
   refine WC.condF rfl (by first | (simp; done) | (simp; omega) | (simp [hd11, hd0_16, hd24, hd0_32, hd46]; done) | (simp [hd11, hd0_16, hd24, hd0_32, hd46]; omega) | (simp only [endAct, endGrid, endScr, endTerm, endVp]; simp; omega)) ?_
   refine WC.skip ?_
   refine hK52 _ _ ?_
   refine WC.rr tbk hs56 [] rfl trivial ?_
   refine WC.sr ?_
   refine WL.run tbk 2 hs56 [0] rfl ⟨rfl, trivial⟩ ?_
   refine WL.call rfl rfl rfl (Run.call Tryz.call17 rfl rfl rfl) (c_laws_markTerm r0_29 _ _ _ ho31 (fun p_ hp_ => (hs56.own p_ (List.mem_append_right [_, _, _, _] (List.mem_append_right _ (List.mem_append_right _ (List.mem_append_left _ hp_))))).1) (St.nodupL (St.perm hs56 (L' := L0_30 ++ _) (perm_front (A := [_, _, _, _]) (perm_front (A := L1_50) (perm_front (A := L1_44) (List.Perm.refl _)))))) ?_ ?_ ?_) ?_
   · first | (first | assumption | omega) | (first | assumption | omega | (simp only [hd11, hd0_16, hd24, hd0_32, hd46, endAct, endGrid, endScr, endTerm, endVp]; first | done | assumption | omega))
   · first | (first | assumption | omega | (simp only [endGrid, endScr, endTerm, endVp]; omega)) | (first | assumption | omega | (simp only [hd11, hd0_16, hd24, hd0_32, hd46, endAct, endGrid, endScr, endTerm, endVp]; first | done | assumption | omega))
   · first | (first | assumption | omega) | (first | assumption | omega | (simp only [hd11, hd0_16, hd24, hd0_32, hd46, endAct, endGrid, endScr, endTerm, endVp]; first | done | assumption | omega))
   rintro _ whs58 ⟨L1_59, rfl, hs58, ho60⟩
   replace hs58 := St.lend (St.perm hs56 (L' := L0_30 ++ _) (perm_front (A := [_, _, _, _]) (perm_front (A := L1_50) (perm_front (A := L1_44) (List.Perm.refl _))))) hs58
   refine ⟨_, rfl, ?_⟩
   replace hs58 := St.back [_, _, _, _] hs58
   refine WL.run tbk 1 hs58 [] rfl trivial ?_
   refine WL.nil ?_
   refine WC.rr tbk hs58 [] rfl trivial ?_
   refine WC.sr ?_
   refine WL.run tbk 2 hs58 [0] rfl ⟨rfl, trivial⟩ ?_
   refine WL.call rfl rfl rfl (Run.call Tryz.call18 rfl rfl rfl) (c_laws_heldTerm _ _ _ (ownTermR.ok (B := 549755813888) ho60 (fun p_ hp_ => (hs58.own p_ (List.mem_append_right [_, _, _, _] (List.mem_append_left _ hp_))).1) (markTerm_sm (by rw [hd0_32]; assumption))) ?_ ?_) ?_
   · first | (first | assumption | omega) | (first | assumption | omega | (simp only [hd11, hd0_16, hd24, hd0_32, hd46, endAct, endGrid, endScr, endTerm, endVp]; first | done | assumption | omega))
   · first | (first | assumption | omega | (simp only [endGrid, endScr, endTerm, endVp]; omega)) | (first | assumption | omega | (simp only [hd11, hd0_16, hd24, hd0_32, hd46, endAct, endGrid, endScr, endTerm, endVp]; first | done | assumption | omega))
   rintro _ whs61 ⟨rfl, hs61⟩
   replace hs61 := hs58.call0 hs61
   refine ⟨_, rfl, ?_⟩
   refine WL.run tbk 1 hs61 [] rfl trivial ?_
   refine WL.nil ?_
   refine WC.seq (fun K62 hK62 => ?_)
   refine WC.rr tbk hs61 [] rfl trivial ?_
   refine WC.condF rfl (by first | (simp; done) | (simp; omega) | (simp [hd11, hd0_16, hd24, hd0_32, hd46]; done) | (simp [hd11, hd0_16, hd24, hd0_32, hd46]; omega) | (simp only [endAct, endGrid, endScr, endTerm, endVp]; simp; omega)) ?_
   refine WC.skip ?_
   refine hK62 _ _ ?_
   refine WC.seq (fun K64 hK64 => ?_)
   refine WC.rr tbk hs61 [] rfl trivial ?_
   refine WC.condF rfl (by first | (simp; done) | (simp; omega) | (simp [hd11, hd0_16, hd24, hd0_32, hd46]; done) | (simp [hd11, hd0_16, hd24, hd0_32, hd46]; omega) | (simp only [endAct, endGrid, endScr, endTerm, endVp]; simp; omega)) ?_
   refine WC.skip ?_
   refine hK64 _ _ ?_
   refine WC.sr ?_
   refine WL.run tbk 1 hs61 [3] rfl ⟨rfl, trivial⟩ ?_
   refine WL.call rfl rfl rfl (Run.call Tryz.call14 rfl rfl rfl) (c_laws_toTerm aT _ (okTermR.st0 f_aT hs61)) ?_
   rintro _ whs66 ⟨r67, L1_68, rfl, hs66, ho69, hd70⟩
   try simp only [hd11, hd0_16, hd24, hd0_32, hd46] at hd70
   replace hs66 := hs61.callF hs66
   refine ⟨_, rfl, ?_⟩
   replace hs66 := St.back [_, _, _, _] hs66
   refine WL.run tbk 2 hs66 [] rfl trivial ?_
   refine WL.call rfl rfl rfl (Run.call Tryz.call15 rfl rfl rfl) (c_impl_TermSize r67 _ _ _ (ownTermR.ok (B := 549755813888) ho69 (fun p_ hp_ => (hs66.own p_ (List.mem_append_right [_, _, _, _] (List.mem_append_left _ hp_))).1) (by rw [hd70]; assumption)) ?_) ?_
   · first | (first | assumption | rfl | omega) | (first | assumption | omega | (simp only [hd11, hd0_16, hd24, hd0_32, hd46, hd70, endAct, endGrid, endScr, endTerm, endVp]; first | done | assumption | omega))
   rintro _ whs71 ⟨r0_72, L0_73, rfl, hs71, ho74, hd0_75⟩
   try simp only [hd11, hd0_16, hd24, hd0_32, hd46, hd70] at hd0_75
   replace hs71 := hs66.callF hs71
   refine ⟨_, rfl, ?_⟩
   replace hs71 := St.back [_, _, _, _] hs71
   refine WL.run tbk 3 hs71 [] rfl trivial ?_
   refine WL.al hs71 Tryz.zeroValue46 rfl rfl (fun b76 _ hs77 => ?_)
   refine WL.st tbk hs77 0 rfl rfl (fun _ hs78 => ?_)
   refine WL.run tbk 1 hs78 [] rfl trivial ?_
   refine WL.nil ?_
   refine WC.seq (fun K79 hK79 => ?_)
   refine WC.sr ?_
   refine WL.run tbk 2 hs78 [0, 3] rfl ⟨rfl, rfl, trivial⟩ ?_
   refine WL.call rfl rfl rfl (Run.call Tryz.call16 rfl rfl rfl) (c_laws_eqTerm r0_72 r0_13 _ (ownTermR.ok (B := 549755813888) ho74 (fun p_ hp_ => (hs78.own p_ (List.mem_append_right [_, _, _, _, _] (List.mem_append_left _ hp_))).1) (by rw [hd0_75]; assumption)) (ownTermR.ok (B := 549755813888) ho15 (fun p_ hp_ => (hs78.own p_ (List.mem_append_right [_, _, _, _, _] (List.mem_append_right _ (List.mem_append_right _ (List.mem_append_right _ (List.mem_append_right _ (List.mem_append_right _ (List.mem_append_left _ hp_)))))))).1) (by rw [hd0_16]; assumption)) ?_) ?_
   · first | (first | assumption | rfl | omega) | (first | assumption | omega | (simp only [hd11, hd0_16, hd24, hd0_32, hd46, hd70, hd0_75, endAct, endGrid, endScr, endTerm, endVp]; first | done | assumption | omega))
   rintro _ whs80 ⟨rfl, hs80⟩
   replace hs80 := hs78.call0 hs80
   refine ⟨_, rfl, ?_⟩
   refine WL.run tbk 2 hs80 [] rfl trivial ?_
   refine WL.pO tbk 3 Acts.nil hs80 [] rfl rfl rfl rfl (fun g_ => trivial) ?_
   refine WL.nil ?_
   refine WC.condF rfl (by first | (simp; done) | (simp; omega) | (simp [hd11, hd0_16, hd24, hd0_32, hd46, hd70, hd0_75]; done) | (simp [hd11, hd0_16, hd24, hd0_32, hd46, hd70, hd0_75]; omega) | (simp only [endAct, endGrid, endScr, endTerm, endVp]; simp; omega)) ?_
   refine WC.skip ?_
   refine hK79 _ _ ?_
   refine WC.rr tbk hs80 [] rfl trivial ?_
   refine WC.sr ?_
   refine WL.run tbk 2 hs80 [1] rfl ⟨rfl, trivial⟩ ?_
   refine WL.call rfl rfl rfl (Run.call Tryz.call18 rfl rfl rfl) (c_laws_heldTerm _ _ _ (ownTermR.ok (B := 549755813888) ho60 (fun p_ hp_ => (hs80.own p_ (List.mem_append_right [_, _, _, _, _] (List.mem_append_right _ (List.mem_append_right _ (List.mem_append_left _ hp_))))).1) (markTerm_sm (by rw [hd0_32]; assumption))) ?_ ?_) ?_
   · first | (first | assumption | omega) | (first | assumption | omega | (simp only [hd11, hd0_16, hd24, hd0_32, hd46, hd70, hd0_75, endAct, endGrid, endScr, endTerm, endVp]; first | done | assumption | omega))
   · first | (first | assumption | omega | (simp only [endGrid, endScr, endTerm, endVp]; omega)) | (first | assumption | omega | (simp only [hd11, hd0_16, hd24, hd0_32, hd46, hd70, hd0_75, endAct, endGrid, endScr, endTerm, endVp]; first | done | assumption | omega))
   rintro _ whs82 ⟨rfl, hs82⟩
   replace hs82 := hs80.call0 hs82
   refine ⟨_, rfl, ?_⟩
   refine WL.run tbk 1 hs82 [] rfl trivial ?_
   refine WL.nil ?_
   refine WC.seq (fun K83 hK83 => ?_)
   refine WC.rr tbk hs82 [] rfl trivial ?_
   refine WC.condF rfl (by first | (simp; done) | (simp; omega) | (simp [hd11, hd0_16, hd24, hd0_32, hd46, hd70, hd0_75]; done) | (simp [hd11, hd0_16, hd24, hd0_32, hd46, hd70, hd0_75]; omega) | (simp only [endAct, endGrid, endScr, endTerm, endVp]; simp; omega)) ?_
   refine WC.skip ?_
   refine hK83 _ _ ?_
   refine WC.seq (fun K85 hK85 => ?_)
   refine WC.rr tbk hs82 [] rfl trivial ?_
   refine WC.condF rfl (by first | (simp; done) | (simp; omega) | (simp [hd11, hd0_16, hd24, hd0_32, hd46, hd70, hd0_75]; done) | (simp [hd11, hd0_16, hd24, hd0_32, hd46, hd70, hd0_75]; omega) | (simp only [endAct, endGrid, endScr, endTerm, endVp]; simp; omega)) ?_
   refine WC.skip ?_
   refine hK85 _ _ ?_
   refine WC.rr tbk hs82 [] rfl trivial ?_
   refine WC.ret ?_
   refine retV1 rfl (resV.tmp rfl) ?_
   refine ⟨congrArg Ending.returned ?_, hs82.nil⟩
   rfl
end Go.Proofs.YtlmcekfdlgkffaaGreat
