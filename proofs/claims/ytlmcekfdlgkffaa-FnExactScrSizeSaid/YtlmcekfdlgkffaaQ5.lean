/- Walks of Go functions, printed by a program (wip/gen). -/
import Derived.Test.YtlmcekfdlgkffaaX8
import Derived.Test.YtlmcekfdlgkffaaX7
namespace Go.Proofs.Ytlmcekfdlgkffaa
open Go Go.RowKit
set_option linter.unusedVariables false
set_option linter.unusedSimpArgs false
set_option maxHeartbeats 8000000 in
theorem c_laws_FnExactScrSize (aS : ScrR) (aW : Int) (aH : Int) (w : World) (f_aS : okScrR 9223372036854775807 w aS) :
    Calls Try.prog 7 #[.agg #[i64 aS.W, i64 aS.H, i64 aS.Main.W, i64 aS.Main.H, .slice aS.Main.Cells.A aS.Main.Cells.n aS.Main.Cells.c, i64 aS.Alt.W, i64 aS.Alt.H, .slice aS.Alt.Cells.A aS.Alt.Cells.n aS.Alt.Cells.c, .bool aS.OnAlt, i64 aS.X, i64 aS.Y, .bool aS.Wrap, i64 aS.A.Fg, i64 aS.A.Bg, .bool aS.A.Bold, .bool aS.A.Under, .bool aS.A.Turn, i64 aS.Top, i64 aS.Bot, .bool aS.NoWrap, .bool aS.Hide, i64 aS.SaveX, i64 aS.SaveY, i64 aS.SaveA.Fg, i64 aS.SaveA.Bg, .bool aS.SaveA.Bold, .bool aS.SaveA.Under, .bool aS.SaveA.Turn, .slice aS.Tabs.A aS.Tabs.n aS.Tabs.c, i64 aS.Limit, .slice aS.Back.A aS.Back.n aS.Back.c], i64 aW, i64 aH] w fun e w' => e = .returned (.bool true) ∧ St w [] [] w' := by
 have nb_aS_Main_Cells := f_aS.Main.Cells_n
 have nl_aS_Main_Cells := f_aS.Main.Cells.len
 have nb_aS_Alt_Cells := f_aS.Alt.Cells_n
 have nl_aS_Alt_Cells := f_aS.Alt.Cells.len
 have nb_aS_Tabs := f_aS.Tabs_n
 have nl_aS_Tabs := f_aS.Tabs.len
 have nb_aS_Back := f_aS.Back_n
 have nl_aS_Back := f_aS.Back.sl.len
 refine enter (vs := [.agg #[i64 aS.W, i64 aS.H, i64 aS.Main.W, i64 aS.Main.H, .slice aS.Main.Cells.A aS.Main.Cells.n aS.Main.Cells.c, i64 aS.Alt.W, i64 aS.Alt.H, .slice aS.Alt.Cells.A aS.Alt.Cells.n aS.Alt.Cells.c, .bool aS.OnAlt, i64 aS.X, i64 aS.Y, .bool aS.Wrap, i64 aS.A.Fg, i64 aS.A.Bg, .bool aS.A.Bold, .bool aS.A.Under, .bool aS.A.Turn, i64 aS.Top, i64 aS.Bot, .bool aS.NoWrap, .bool aS.Hide, i64 aS.SaveX, i64 aS.SaveY, i64 aS.SaveA.Fg, i64 aS.SaveA.Bg, .bool aS.SaveA.Bold, .bool aS.SaveA.Under, .bool aS.SaveA.Turn, .slice aS.Tabs.A aS.Tabs.n aS.Tabs.c, i64 aS.Limit, .slice aS.Back.A aS.Back.n aS.Back.c], i64 aW, i64 aH]) 106 Try.func7 rfl Try.ntmps7 rfl rfl ?_
 have hs1 := St.init w
 refine WC.sr ?_
 refine WL.bx hs1 rfl (fun b2 _ hs3 => ?_)
 refine WL.run tbk 1 hs3 [] rfl trivial ?_
 refine WL.nil ?_
 refine WC.rr tbk hs3 [] rfl trivial ?_
 refine WC.sr ?_
 refine WL.run tbk 2 hs3 [0] rfl ⟨rfl, trivial⟩ ?_
 refine WL.call rfl rfl rfl (Run.call Try.call39 rfl rfl rfl) (c_laws_szScr aS _ _ (okScrR.st0 f_aS hs3) ?_ ?_) ?_
 · first | (first | assumption | omega) | (first | assumption | omega | (simp only [endAct, endGrid, endScr, endTerm, endVp]; first | done | assumption | omega))
 · first | (first | assumption | omega | exact szR_b (by assumption) (by omega) (by first | assumption | omega)) | (first | assumption | omega | (simp only [endAct, endGrid, endScr, endTerm, endVp]; first | done | assumption | omega))
 rintro _ whs4 ⟨rfl, hs4⟩
 replace hs4 := hs3.call0 hs4
 refine ⟨_, rfl, ?_⟩
 refine WL.run tbk 1 hs4 [] rfl trivial ?_
 refine WL.nil ?_
 refine WC.seq (fun K5 hK5 => ?_)
 refine WC.rr tbk hs4 [] rfl trivial ?_
 refine WC.cD rfl (fun qh6 => ?_) (fun qh6 => ?_)
 ·refine WC.rr tbk hs4 [] rfl trivial ?_
  refine WC.ret ?_
  refine tkR ?_
  clear hK5
  refine retV1 rfl (resV.tmp rfl) ?_
  refine ⟨congrArg Ending.returned ?_, hs4.nil⟩
  rfl
 ·simp only [szR] at qh6
  have hb_aS : totScr aS.dat ≤ 1048576 := by split at qh6 <;> omega
  have hsm_aS : smScr 1048576 aS.dat := totScr_sm hb_aS
  have hsB_aS : smScr 549755813888 aS.dat := totScr_sm (by omega)
  have f_aS := f_aS.to hsB_aS
  have hT := scrSizeRes_tot (s := aS.dat) (w := aW) (h := aH)
  have hTB : smScr 549755813888 (scrSizeRes aS.dat aW aH) := totScr_sm (by omega)
  refine WC.skip ?_
  refine hK5 _ _ ?_
  refine WC.sr ?_
  refine WL.run tbk 1 hs4 [0] rfl ⟨rfl, trivial⟩ ?_
  refine WL.call rfl rfl rfl (Run.call Try.call41 rfl rfl rfl) (c_laws_toScr aS _ (okScrR.st0 f_aS hs4)) ?_
  rintro _ whs7 ⟨r8, L1_9, rfl, hs7, ho10, hd11⟩
  replace hs7 := hs4.callF hs7
  refine ⟨_, rfl, ?_⟩
  replace hs7 := St.back [_] hs7
  refine WL.run tbk 2 hs7 [] rfl trivial ?_
  refine WL.call rfl rfl rfl (Run.call Try.call40 rfl rfl rfl) (c_spec_ScrSize r8 _ _ _ (ownScrR.ok (B := 549755813888) ho10 (fun p_ hp_ => (hs7.own p_ (List.mem_append_right [_] (List.mem_append_left _ hp_))).1) (by rw [hd11]; assumption)) ?_) ?_
  · first | (first | assumption | rfl | omega) | (first | assumption | omega | (simp only [hd11, endAct, endGrid, endScr, endTerm, endVp]; first | done | assumption | omega))
  rintro _ whs12 ⟨r0_13, L0_14, rfl, hs12, ho15, hd0_16⟩
  try simp only [hd11] at hd0_16
  replace hs12 := hs7.callF hs12
  refine ⟨_, rfl, ?_⟩
  replace hs12 := St.back [_] hs12
  refine WL.run tbk 3 hs12 [] rfl trivial ?_
  refine WL.al hs12 Try.zeroValue33 rfl rfl (fun b17 _ hs18 => ?_)
  refine WL.st tbk hs18 0 rfl rfl (fun _ hs19 => ?_)
  refine WL.run tbk 1 hs19 [] rfl trivial ?_
  refine WL.nil ?_
  refine WC.sr ?_
  refine WL.run tbk 1 hs19 [1] rfl ⟨rfl, trivial⟩ ?_
  refine WL.call rfl rfl rfl (Run.call Try.call41 rfl rfl rfl) (c_laws_toScr aS _ (okScrR.st0 f_aS hs19)) ?_
  rintro _ whs20 ⟨r21, L1_22, rfl, hs20, ho23, hd24⟩
  try simp only [hd11, hd0_16] at hd24
  replace hs20 := hs19.callF hs20
  refine ⟨_, rfl, ?_⟩
  replace hs20 := St.back [_, _] hs20
  have el0 := endScr_le 1 r21
  rw [hd24] at el0
  have eg0 := endScr_ge 1 r21
  have eb0 : endScr 1 r21 ≤ 549755813888 := by omega
  have en0_Back : r21.Back.xs.length ≤ 549755813888 := by have h1 := tots_len totRow (r21.Back.xs.map RowR.dat); rw [List.length_map] at h1; have h2 : totScr r21.dat ≤ 1048576 := (by rw [hd24]; exact hb_aS); simp only [GridR.dat, ScrR.dat, totGrid, totScr] at h2; omega
  refine WL.al hs20 Try.zeroValue33 rfl rfl (fun b25 _ hs26 => ?_)
  refine WL.st tbk hs26 0 rfl rfl (fun _ hs27 => ?_)
  refine WL.nil ?_
  refine WC.sr ?_
  refine WL.run tbk 3 hs27 [0] rfl ⟨rfl, trivial⟩ ?_
  refine WL.call rfl rfl rfl (Run.call Try.call42 rfl rfl rfl) (c_impl_ScrSize r21 _ _ _ (ownScrR.ok (B := 549755813888) ho23 (fun p_ hp_ => (hs27.own p_ (List.mem_append_right [_, _, _] (List.mem_append_left _ hp_))).1) (by rw [hd24]; assumption)) ?_) ?_
  · first | (first | assumption | rfl | omega) | (first | assumption | omega | (simp only [hd11, hd0_16, hd24, endAct, endGrid, endScr, endTerm, endVp]; first | done | assumption | omega))
  rintro _ whs28 ⟨r0_29, L0_30, rfl, hs28, ho31, hd0_32⟩
  try simp only [hd11, hd0_16, hd24] at hd0_32
  replace hs28 := hs27.callF hs28
  refine ⟨_, rfl, ?_⟩
  replace hs28 := St.back [_, _, _] hs28
  have el1 := endScr_le 1 r0_29
  rw [hd0_32] at el1
  have eg1 := endScr_ge 1 r0_29
  have eb1 : endScr 1 r0_29 ≤ 549755813888 := by omega
  have en1_Back : r0_29.Back.xs.length ≤ 549755813888 := by have h1 := tots_len totRow (r0_29.Back.xs.map RowR.dat); rw [List.length_map] at h1; have h2 : totScr r0_29.dat ≤ 20114 := (by rw [hd0_32]; exact hT); simp only [GridR.dat, ScrR.dat, totGrid, totScr] at h2; omega
  refine WL.run tbk 3 hs28 [] rfl trivial ?_
  refine WL.al hs28 Try.zeroValue33 rfl rfl (fun b33 _ hs34 => ?_)
  refine WL.st tbk hs34 0 rfl rfl (fun _ hs35 => ?_)
  refine WL.run tbk 1 hs35 [] rfl trivial ?_
  refine WL.nil ?_
  refine WC.seq (fun K36 hK36 => ?_)
  refine WC.sr ?_
  refine WL.run tbk 2 hs35 [0, 2] rfl ⟨rfl, rfl, trivial⟩ ?_
  refine WL.call rfl rfl rfl (Run.call Try.call43 rfl rfl rfl) (c_laws_eqScr r0_29 r0_13 _ (ownScrR.ok (B := 549755813888) ho31 (fun p_ hp_ => (hs35.own p_ (List.mem_append_right [_, _, _, _] (List.mem_append_left _ hp_))).1) (by rw [hd0_32]; assumption)) (ownScrR.ok (B := 549755813888) ho15 (fun p_ hp_ => (hs35.own p_ (List.mem_append_right [_, _, _, _] (List.mem_append_right _ (List.mem_append_right _ (List.mem_append_left _ hp_))))).1) (by rw [hd0_16]; assumption)) ?_) ?_
  · first | (first | assumption | rfl | omega) | (first | assumption | omega | (simp only [hd11, hd0_16, hd24, hd0_32, endAct, endGrid, endScr, endTerm, endVp]; first | done | assumption | omega))
  rintro _ whs37 ⟨rfl, hs37⟩
  replace hs37 := hs35.call0 hs37
  refine ⟨_, rfl, ?_⟩
  refine WL.run tbk 2 hs37 [] rfl trivial ?_
  refine WL.pO tbk 3 Acts.nil hs37 [] rfl rfl rfl rfl (fun g_ => trivial) ?_
  refine WL.nil ?_
  refine WC.condF rfl (by first | (simp; done) | (simp; omega) | (simp [hd11, hd0_16, hd24, hd0_32]; done) | (simp [hd11, hd0_16, hd24, hd0_32]; omega) | (simp only [endAct, endGrid, endScr, endTerm, endVp]; simp; omega)) ?_
  refine WC.skip ?_
  refine hK36 _ _ ?_
  refine WC.seq (fun K39 hK39 => ?_)
  refine WC.seq (fun K40 hK40 => ?_)
  refine WC.regionH2 (fun w' => St _ _ _ w') (fun w' => St _ _ _ w') mixed (St.drew hs37) (St.drew hs37) (fun whs41 hs41 => ?_)
  replace hs41 : St _ _ _ _ := hs41
  refine WH.take 0 rfl (by kernel_rfl) rfl rfl rfl hs41 (fun w_ hs_ => (Run.loadLA (hs_ : St _ _ _ _) 1 Try.isAgg33 Try.sizeOf33 rfl rfl rfl rfl rfl)) ?_
  refine WH.take 1 rfl (by kernel_rfl) rfl rfl rfl hs41 (fun w_ hs_ => (Run.loadLA (hs_ : St _ _ _ _) 3 Try.isAgg68 Try.sizeOf68 rfl rfl rfl rfl rfl)) ?_
  refine WH.all [2] (by kernel_rfl) rfl (WHs.cons (i := 2) rfl ?_ WHs.nil)
  refine WL.call rfl rfl rfl (Run.call Try.call41 rfl rfl rfl) (c_laws_toScr aS _ (okScrR.st0 f_aS hs41)) ?_
  rintro _ whs42 ⟨r43, L1_44, rfl, hs42, ho45, hd46⟩
  try simp only [hd11, hd0_16, hd24, hd0_32] at hd46
  replace hs42 := hs41.callF hs42
  refine ⟨_, rfl, ?_⟩
  replace hs42 := St.back [_, _, _, _] hs42
  refine WL.nil ⟨(St.drop (St.perm hs42 (L' := L1_44 ++ _) (perm_front (A := [_, _, _, _]) (List.Perm.refl _))) (List.sublist_append_right L1_44 _)), ?_⟩
  refine WH.all [3] (by kernel_rfl) rfl (WHs.cons (i := 3) rfl ?_ WHs.nil)
  refine WL.call rfl rfl rfl (Run.call Try.call43 rfl rfl rfl) (c_laws_eqScr r21 r43 _ (ownScrR.ok (B := 549755813888) ho23 (fun p_ hp_ => (hs42.own p_ (List.mem_append_right [_, _, _, _] (List.mem_append_right _ (List.mem_append_right _ (List.mem_append_left _ hp_))))).1) (by rw [hd24]; assumption)) (ownScrR.ok (B := 549755813888) ho45 (fun p_ hp_ => (hs42.own p_ (List.mem_append_right [_, _, _, _] (List.mem_append_left _ hp_))).1) (by rw [hd46]; assumption)) ?_) ?_
  · first | (first | assumption | rfl | omega) | (first | assumption | omega | (simp only [hd11, hd0_16, hd24, hd0_32, hd46, endAct, endGrid, endScr, endTerm, endVp]; first | done | assumption | omega))
  rintro _ whs47 ⟨rfl, hs47⟩
  replace hs47 := hs42.call0 hs47
  refine ⟨_, rfl, ?_⟩
  refine WL.nil ⟨(St.drop (St.perm hs47 (L' := L1_44 ++ _) (perm_front (A := [_, _, _, _]) (List.Perm.refl _))) (List.sublist_append_right L1_44 _)), ?_⟩
  refine WH.take 4 rfl (by kernel_rfl) rfl rfl rfl (St.drop (St.perm hs47 (L' := L1_44 ++ _) (perm_front (A := [_, _, _, _]) (List.Perm.refl _))) (List.sublist_append_right L1_44 _)) (fun w_ hs_ => (Run.not rfl rfl)) ?_
  refine WH.done (by kernel_rfl) ?_
  refine hK40 _ _ ?_
  refine WC.condF rfl (by first | (simp; done) | (simp; omega) | (simp [hd11, hd0_16, hd24, hd0_32, hd46]; done) | (simp [hd11, hd0_16, hd24, hd0_32, hd46]; omega) | (simp only [endAct, endGrid, endScr, endTerm, endVp]; simp; omega)) ?_
  refine WC.skip ?_
  refine hK39 _ _ ?_
  refine WC.rr tbk hs47 [] rfl trivial ?_
  refine WC.sr ?_
  refine WL.run tbk 2 hs47 [1] rfl ⟨rfl, trivial⟩ ?_
  refine WL.call rfl rfl rfl (Run.call Try.call44 rfl rfl rfl) (c_laws_markScr r21 _ _ _ ho23 (fun p_ hp_ => (hs47.own p_ (List.mem_append_right [_, _, _, _] (List.mem_append_right _ (List.mem_append_right _ (List.mem_append_left _ hp_))))).1) (St.nodupL (St.perm hs47 (L' := L1_22 ++ _) (perm_front (A := [_, _, _, _]) (perm_front (A := L1_44) (perm_front (A := L0_30) (List.Perm.refl _)))))) ?_ ?_ ?_) ?_
  · first | (first | assumption | omega) | (first | assumption | omega | (simp only [hd11, hd0_16, hd24, hd0_32, hd46, endAct, endGrid, endScr, endTerm, endVp]; first | done | assumption | omega))
  · first | (first | assumption | omega | (simp only [endGrid, endScr]; omega)) | (first | assumption | omega | (simp only [hd11, hd0_16, hd24, hd0_32, hd46, endAct, endGrid, endScr, endTerm, endVp]; first | done | assumption | omega))
  · first | (first | assumption | omega) | (first | assumption | omega | (simp only [hd11, hd0_16, hd24, hd0_32, hd46, endAct, endGrid, endScr, endTerm, endVp]; first | done | assumption | omega))
  rintro _ whs49 ⟨L1_50, rfl, hs49, ho51⟩
  replace hs49 := St.lend (St.perm hs47 (L' := L1_22 ++ _) (perm_front (A := [_, _, _, _]) (perm_front (A := L1_44) (perm_front (A := L0_30) (List.Perm.refl _))))) hs49
  refine ⟨_, rfl, ?_⟩
  replace hs49 := St.back [_, _, _, _] hs49
  refine WL.run tbk 1 hs49 [] rfl trivial ?_
  refine WL.nil ?_
  refine WC.seq (fun K52 hK52 => ?_)
  refine WC.sr ?_
  refine WL.run tbk 3 hs49 [] rfl trivial ?_
  apply WL.gO 4 Acts.nil hs49 rfl
  ·intro g53 J54
   have qg53 := g53
   try simp only [bf, within_iff, within_not] at qg53
   refine WL.runA tbk 2 (Acts.nil.cons (j := 2) rfl g53) hs49 [0, 2] rfl ⟨rfl, rfl, trivial⟩ ?_
   refine WL.call (wantF rfl g53) rfl rfl (Run.call Try.call43 rfl rfl rfl) (c_laws_eqScr r0_29 r0_13 _ (ownScrR.ok (B := 549755813888) ho31 (fun p_ hp_ => (hs49.own p_ (List.mem_append_right [_, _, _, _] (List.mem_append_right _ (List.mem_append_right _ (List.mem_append_left _ hp_))))).1) (by rw [hd0_32]; assumption)) (ownScrR.ok (B := 549755813888) ho15 (fun p_ hp_ => (hs49.own p_ (List.mem_append_right [_, _, _, _] (List.mem_append_right _ (List.mem_append_right _ (List.mem_append_right _ (List.mem_append_left _ hp_)))))).1) (by rw [hd0_16]; assumption)) ?_) ?_
   · first | (first | assumption | rfl | omega) | (first | assumption | omega | (simp only [hd11, hd0_16, hd24, hd0_32, hd46, endAct, endGrid, endScr, endTerm, endVp]; first | done | assumption | omega))
   rintro _ whs55 ⟨rfl, hs55⟩
   replace hs55 := hs49.call0 hs55
   refine ⟨_, rfl, ?_⟩
   refine WL.runA tbk 1 (Acts.nil.cons (j := 2) rfl g53) hs55 [] rfl trivial ?_
   exact WL.eO 4 Acts.nil J54 hs55 g53 rfl rfl
  ·intro _ hs56
   refine WL.run tbk 1 hs56 [] rfl trivial ?_
   refine WL.pO tbk 3 Acts.nil hs56 [] rfl rfl rfl rfl (fun g_ => trivial) ?_
   refine WL.nil ?_
   refine WC.condF rfl (by first | (simp; done) | (simp; omega) | (simp [hd11, hd0_16, hd24, hd0_32, hd46]; done) | (simp [hd11, hd0_16, hd24, hd0_32, hd46]; omega) | (simp only [endAct, endGrid, endScr, endTerm, endVp]; simp; omega)) ?_
   refine WC.skip ?_
   refine hK52 _ _ ?_
   refine WC.rr tbk hs56 [] rfl trivial ?_
   refine WC.sr ?_
   refine WL.run tbk 2 hs56 [0] rfl ⟨rfl, trivial⟩ ?_
   refine WL.call rfl rfl rfl (Run.call Try.call44 rfl rfl rfl) (c_laws_markScr r0_29 _ _ _ ho31 (fun p_ hp_ => (hs56.own p_ (List.mem_append_right [_, _, _, _] (List.mem_append_right _ (List.mem_append_right _ (List.mem_append_left _ hp_))))).1) (St.nodupL (St.perm hs56 (L' := L0_30 ++ _) (perm_front (A := [_, _, _, _]) (perm_front (A := L1_50) (perm_front (A := L1_44) (List.Perm.refl _)))))) ?_ ?_ ?_) ?_
   · first | (first | assumption | omega) | (first | assumption | omega | (simp only [hd11, hd0_16, hd24, hd0_32, hd46, endAct, endGrid, endScr, endTerm, endVp]; first | done | assumption | omega))
   · first | (first | assumption | omega | (simp only [endGrid, endScr]; omega)) | (first | assumption | omega | (simp only [hd11, hd0_16, hd24, hd0_32, hd46, endAct, endGrid, endScr, endTerm, endVp]; first | done | assumption | omega))
   · first | (first | assumption | omega) | (first | assumption | omega | (simp only [hd11, hd0_16, hd24, hd0_32, hd46, endAct, endGrid, endScr, endTerm, endVp]; first | done | assumption | omega))
   rintro _ whs58 ⟨L1_59, rfl, hs58, ho60⟩
   replace hs58 := St.lend (St.perm hs56 (L' := L0_30 ++ _) (perm_front (A := [_, _, _, _]) (perm_front (A := L1_50) (perm_front (A := L1_44) (List.Perm.refl _))))) hs58
   refine ⟨_, rfl, ?_⟩
   replace hs58 := St.back [_, _, _, _] hs58
   refine WL.run tbk 1 hs58 [] rfl trivial ?_
   refine WL.nil ?_
   refine WC.rr tbk hs58 [] rfl trivial ?_
   refine WC.sr ?_
   refine WL.run tbk 2 hs58 [0] rfl ⟨rfl, trivial⟩ ?_
   refine WL.call rfl rfl rfl (Run.call Try.call45 rfl rfl rfl) (c_laws_heldScr _ _ _ (ownScrR.ok (B := 549755813888) ho60 (fun p_ hp_ => (hs58.own p_ (List.mem_append_right [_, _, _, _] (List.mem_append_left _ hp_))).1) (markScr_sm (by rw [hd0_32]; assumption))) ?_ ?_) ?_
   · first | (first | assumption | omega) | (first | assumption | omega | (simp only [hd11, hd0_16, hd24, hd0_32, hd46, endAct, endGrid, endScr, endTerm, endVp]; first | done | assumption | omega))
   · first | (first | assumption | omega | (simp only [endGrid, endScr]; omega)) | (first | assumption | omega | (simp only [hd11, hd0_16, hd24, hd0_32, hd46, endAct, endGrid, endScr, endTerm, endVp]; first | done | assumption | omega))
   rintro _ whs61 ⟨rfl, hs61⟩
   replace hs61 := hs58.call0 hs61
   refine ⟨_, rfl, ?_⟩
   refine WL.run tbk 1 hs61 [] rfl trivial ?_
   refine WL.nil ?_
   refine WC.seq (fun K62 hK62 => ?_)
   refine WC.rr tbk hs61 [] rfl trivial ?_
   refine WC.condF rfl (by first | (simp; done) | (simp; omega) | (simp [hd11, hd0_16, hd24, hd0_32, hd46]; done) | (simp [hd11, hd0_16, hd24, hd0_32, hd46]; omega) | (simp only [endAct, endGrid, endScr, endTerm, endVp]; simp; omega)) ?_
   refine WC.skip ?_
   refine hK62 _ _ ?_
   refine WC.seq (fun K64 hK64 => ?_)
   refine WC.rr tbk hs61 [] rfl trivial ?_
   refine WC.condF rfl (by first | (simp; done) | (simp; omega) | (simp [hd11, hd0_16, hd24, hd0_32, hd46]; done) | (simp [hd11, hd0_16, hd24, hd0_32, hd46]; omega) | (simp only [endAct, endGrid, endScr, endTerm, endVp]; simp; omega)) ?_
   refine WC.skip ?_
   refine hK64 _ _ ?_
   refine WC.sr ?_
   refine WL.run tbk 1 hs61 [3] rfl ⟨rfl, trivial⟩ ?_
   refine WL.call rfl rfl rfl (Run.call Try.call41 rfl rfl rfl) (c_laws_toScr aS _ (okScrR.st0 f_aS hs61)) ?_
   rintro _ whs66 ⟨r67, L1_68, rfl, hs66, ho69, hd70⟩
   try simp only [hd11, hd0_16, hd24, hd0_32, hd46] at hd70
   replace hs66 := hs61.callF hs66
   refine ⟨_, rfl, ?_⟩
   replace hs66 := St.back [_, _, _, _] hs66
   refine WL.run tbk 2 hs66 [] rfl trivial ?_
   refine WL.call rfl rfl rfl (Run.call Try.call42 rfl rfl rfl) (c_impl_ScrSize r67 _ _ _ (ownScrR.ok (B := 549755813888) ho69 (fun p_ hp_ => (hs66.own p_ (List.mem_append_right [_, _, _, _] (List.mem_append_left _ hp_))).1) (by rw [hd70]; assumption)) ?_) ?_
   · first | (first | assumption | rfl | omega) | (first | assumption | omega | (simp only [hd11, hd0_16, hd24, hd0_32, hd46, hd70, endAct, endGrid, endScr, endTerm, endVp]; first | done | assumption | omega))
   rintro _ whs71 ⟨r0_72, L0_73, rfl, hs71, ho74, hd0_75⟩
   try simp only [hd11, hd0_16, hd24, hd0_32, hd46, hd70] at hd0_75
   replace hs71 := hs66.callF hs71
   refine ⟨_, rfl, ?_⟩
   replace hs71 := St.back [_, _, _, _] hs71
   refine WL.run tbk 3 hs71 [] rfl trivial ?_
   refine WL.al hs71 Try.zeroValue33 rfl rfl (fun b76 _ hs77 => ?_)
   refine WL.st tbk hs77 0 rfl rfl (fun _ hs78 => ?_)
   refine WL.run tbk 1 hs78 [] rfl trivial ?_
   refine WL.nil ?_
   refine WC.seq (fun K79 hK79 => ?_)
   refine WC.sr ?_
   refine WL.run tbk 2 hs78 [0, 3] rfl ⟨rfl, rfl, trivial⟩ ?_
   refine WL.call rfl rfl rfl (Run.call Try.call43 rfl rfl rfl) (c_laws_eqScr r0_72 r0_13 _ (ownScrR.ok (B := 549755813888) ho74 (fun p_ hp_ => (hs78.own p_ (List.mem_append_right [_, _, _, _, _] (List.mem_append_left _ hp_))).1) (by rw [hd0_75]; assumption)) (ownScrR.ok (B := 549755813888) ho15 (fun p_ hp_ => (hs78.own p_ (List.mem_append_right [_, _, _, _, _] (List.mem_append_right _ (List.mem_append_right _ (List.mem_append_right _ (List.mem_append_right _ (List.mem_append_right _ (List.mem_append_left _ hp_)))))))).1) (by rw [hd0_16]; assumption)) ?_) ?_
   · first | (first | assumption | rfl | omega) | (first | assumption | omega | (simp only [hd11, hd0_16, hd24, hd0_32, hd46, hd70, hd0_75, endAct, endGrid, endScr, endTerm, endVp]; first | done | assumption | omega))
   rintro _ whs80 ⟨rfl, hs80⟩
   replace hs80 := hs78.call0 hs80
   refine ⟨_, rfl, ?_⟩
   refine WL.run tbk 2 hs80 [] rfl trivial ?_
   refine WL.pO tbk 3 Acts.nil hs80 [] rfl rfl rfl rfl (fun g_ => trivial) ?_
   refine WL.nil ?_
   refine WC.condF rfl (by first | (simp; done) | (simp; omega) | (simp [hd11, hd0_16, hd24, hd0_32, hd46, hd70, hd0_75]; done) | (simp [hd11, hd0_16, hd24, hd0_32, hd46, hd70, hd0_75]; omega) | (simp only [endAct, endGrid, endScr, endTerm, endVp]; simp; omega)) ?_
   refine WC.skip ?_
   refine hK79 _ _ ?_
   refine WC.rr tbk hs80 [] rfl trivial ?_
   refine WC.sr ?_
   refine WL.run tbk 2 hs80 [1] rfl ⟨rfl, trivial⟩ ?_
   refine WL.call rfl rfl rfl (Run.call Try.call45 rfl rfl rfl) (c_laws_heldScr _ _ _ (ownScrR.ok (B := 549755813888) ho60 (fun p_ hp_ => (hs80.own p_ (List.mem_append_right [_, _, _, _, _] (List.mem_append_right _ (List.mem_append_right _ (List.mem_append_left _ hp_))))).1) (markScr_sm (by rw [hd0_32]; assumption))) ?_ ?_) ?_
   · first | (first | assumption | omega) | (first | assumption | omega | (simp only [hd11, hd0_16, hd24, hd0_32, hd46, hd70, hd0_75, endAct, endGrid, endScr, endTerm, endVp]; first | done | assumption | omega))
   · first | (first | assumption | omega | (simp only [endGrid, endScr]; omega)) | (first | assumption | omega | (simp only [hd11, hd0_16, hd24, hd0_32, hd46, hd70, hd0_75, endAct, endGrid, endScr, endTerm, endVp]; first | done | assumption | omega))
   rintro _ whs82 ⟨rfl, hs82⟩
   replace hs82 := hs80.call0 hs82
   refine ⟨_, rfl, ?_⟩
   refine WL.run tbk 1 hs82 [] rfl trivial ?_
   refine WL.nil ?_
   refine WC.seq (fun K83 hK83 => ?_)
   refine WC.rr tbk hs82 [] rfl trivial ?_
   refine WC.condF rfl (by first | (simp; done) | (simp; omega) | (simp [hd11, hd0_16, hd24, hd0_32, hd46, hd70, hd0_75]; done) | (simp [hd11, hd0_16, hd24, hd0_32, hd46, hd70, hd0_75]; omega) | (simp only [endAct, endGrid, endScr, endTerm, endVp]; simp; omega)) ?_
   refine WC.skip ?_
   refine hK83 _ _ ?_
   refine WC.seq (fun K85 hK85 => ?_)
   refine WC.rr tbk hs82 [] rfl trivial ?_
   refine WC.condF rfl (by first | (simp; done) | (simp; omega) | (simp [hd11, hd0_16, hd24, hd0_32, hd46, hd70, hd0_75]; done) | (simp [hd11, hd0_16, hd24, hd0_32, hd46, hd70, hd0_75]; omega) | (simp only [endAct, endGrid, endScr, endTerm, endVp]; simp; omega)) ?_
   refine WC.skip ?_
   refine hK85 _ _ ?_
   refine WC.rr tbk hs82 [] rfl trivial ?_
   refine WC.ret ?_
   refine retV1 rfl (resV.tmp rfl) ?_
   refine ⟨congrArg Ending.returned ?_, hs82.nil⟩
   rfl
end Go.Proofs.Ytlmcekfdlgkffaa
