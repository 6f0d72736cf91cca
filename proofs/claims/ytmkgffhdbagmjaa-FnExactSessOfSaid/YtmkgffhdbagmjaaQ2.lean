/- Walks of Go functions, printed by a program (wip/gen). -/
import Derived.Test.YtmkgffhdbagmjaaA2
namespace Go.Proofs.Ytmkgffhdbagmjaa
open Go Go.RowKit
set_option linter.unusedVariables false
set_option linter.unusedSimpArgs false
set_option maxHeartbeats 8000000 in
theorem c_laws_FnExactSessAt (aS : StateR) (p : ByteArray) (w : World) (f_aS : okStateR 9223372036854775807 w aS) :
    Calls Try.prog 5 #[.agg #[i64 aS.W, i64 aS.H, i64 aS.Limit, i64 aS.Next, .slice aS.Panes.A aS.Panes.n aS.Panes.c, .slice aS.Wins.A aS.Wins.n aS.Wins.c, .slice aS.Sess.A aS.Sess.n aS.Sess.c], .string p] w fun e w' => e = .returned (.bool true) ∧ St w [] [] w' := by
 have nb_aS_Panes := f_aS.Panes_n
 have nl_aS_Panes := f_aS.Panes.sl.len
 have nb_aS_Wins := f_aS.Wins_n
 have nl_aS_Wins := f_aS.Wins.sl.len
 have nb_aS_Sess := f_aS.Sess_n
 have nl_aS_Sess := f_aS.Sess.sl.len
 refine enter (vs := [.agg #[i64 aS.W, i64 aS.H, i64 aS.Limit, i64 aS.Next, .slice aS.Panes.A aS.Panes.n aS.Panes.c, .slice aS.Wins.A aS.Wins.n aS.Wins.c, .slice aS.Sess.A aS.Sess.n aS.Sess.c], .string p]) 34 Try.func5 rfl Try.ntmps5 rfl rfl ?_
 have hs1 := St.init w
 refine WC.sr ?_
 refine WL.bx hs1 rfl (fun b2 _ hs3 => ?_)
 refine WL.run tbk 1 hs3 [] rfl trivial ?_
 refine WL.nil ?_
 refine WC.seq (fun K4 hK4 => ?_)
 refine WC.rr tbk hs3 [] rfl trivial ?_
 refine WC.cD rfl (fun qh5 => ?_) (fun qh5 => ?_)
 ·refine WC.rr tbk hs3 [] rfl trivial ?_
  refine WC.ret ?_
  refine tkR ?_
  clear hK4
  refine retV1 rfl (resV.tmp rfl) ?_
  refine ⟨congrArg Ending.returned ?_, hs3.nil⟩
  rfl
 ·refine WC.skip ?_
  refine hK4 _ _ ?_
  refine WC.rr tbk hs3 [] rfl trivial ?_
  refine WC.sr ?_
  refine WL.run tbk 2 hs3 [0] rfl ⟨rfl, trivial⟩ ?_
  refine WL.call rfl rfl rfl (Run.call Try.call13 rfl rfl rfl) (c_laws_szState aS _ _ (okStateR.st0 f_aS hs3) ?_ ?_) ?_
  · first | (first | assumption | omega) | (first | assumption | omega | (simp only []; first | done | assumption | omega))
  · first | (first | assumption | omega | exact szR_b (by assumption) (by omega) (by first | assumption | omega)) | (first | assumption | omega | (simp only []; first | done | assumption | omega))
  rintro _ whs6 ⟨rfl, hs6⟩
  replace hs6 := hs3.call0 hs6
  refine ⟨_, rfl, ?_⟩
  refine WL.run tbk 1 hs6 [] rfl trivial ?_
  refine WL.nil ?_
  refine WC.seq (fun K7 hK7 => ?_)
  refine WC.rr tbk hs6 [] rfl trivial ?_
  refine WC.cD rfl (fun qh8 => ?_) (fun qh8 => ?_)
  ·refine WC.rr tbk hs6 [] rfl trivial ?_
   refine WC.ret ?_
   refine tkR ?_
   clear hK7
   refine retV1 rfl (resV.tmp rfl) ?_
   refine ⟨congrArg Ending.returned ?_, hs6.nil⟩
   rfl
  ·simp only [szR] at qh8
   have hb_aS : totState aS.dat ≤ 1048576 := by split at qh8 <;> omega
   have hsm_aS : smState 1048576 aS.dat := totState_sm hb_aS
   have hsB_aS : smState 549755813888 aS.dat := totState_sm (by omega)
   have f_aS := f_aS.to hsB_aS
   refine WC.skip ?_
   refine hK7 _ _ ?_
   refine WC.sr ?_
   refine WL.run tbk 1 hs6 [0] rfl ⟨rfl, trivial⟩ ?_
   refine WL.call rfl rfl rfl (Run.call Try.call15 rfl rfl rfl) (c_laws_toState aS _ (okStateR.st0 f_aS hs6)) ?_
   rintro _ whs9 ⟨r10, L111, rfl, hs9, ho12, hd13⟩
   replace hs9 := hs6.callF hs9
   refine ⟨_, rfl, ?_⟩
   replace hs9 := St.back [_] hs9
   refine WL.run tbk 1 hs9 [] rfl trivial ?_
   refine WL.call rfl rfl rfl (Run.call Try.call18 rfl rfl rfl) (c_spec_SessAt r10 _ _ (ownStateR.ok (B := 549755813888) ho12 (fun p_ hp_ => (hs9.own p_ (List.mem_append_right [_] (List.mem_append_left _ hp_))).1) (by rw [hd13]; assumption))) ?_
   rintro _ whs14 ⟨rfl, hs14⟩
   replace hs14 := hs9.call0 hs14
   refine ⟨_, rfl, ?_⟩
   refine WL.run tbk 1 hs14 [] rfl trivial ?_
   refine WL.nil ?_
   refine WC.sr ?_
   refine WL.run tbk 1 hs14 [0] rfl ⟨rfl, trivial⟩ ?_
   refine WL.call rfl rfl rfl (Run.call Try.call15 rfl rfl rfl) (c_laws_toState aS _ (okStateR.st0 f_aS hs14)) ?_
   rintro _ whs15 ⟨r16, L117, rfl, hs15, ho18, hd19⟩
   try simp only [hd13] at hd19
   replace hs15 := hs14.callF hs15
   refine ⟨_, rfl, ?_⟩
   replace hs15 := St.back [_] hs15
   refine WL.al hs15 Try.zeroValue66 rfl rfl (fun b20 _ hs21 => ?_)
   refine WL.st tbk hs21 0 rfl rfl (fun _ hs22 => ?_)
   refine WL.nil ?_
   refine WC.sr ?_
   refine WL.run tbk 2 hs22 [0] rfl ⟨rfl, trivial⟩ ?_
   refine WL.call rfl rfl rfl (Run.call Try.call19 rfl rfl rfl) (c_impl_SessAt r16 _ _ (ownStateR.ok (B := 549755813888) ho18 (fun p_ hp_ => (hs22.own p_ (List.mem_append_right [_, _] (List.mem_append_left _ hp_))).1) (by rw [hd19]; assumption))) ?_
   rintro _ whs23 ⟨rfl, hs23⟩
   replace hs23 := hs22.call0 hs23
   refine ⟨_, rfl, ?_⟩
   refine WL.run tbk 1 hs23 [] rfl trivial ?_
   refine WL.nil ?_
   refine WC.seq (fun K24 hK24 => ?_)
   refine WC.rr tbk hs23 [] rfl trivial ?_
   refine WC.condF rfl (by first | (simp; done) | (simp; omega) | (simp [hd13, hd19]; done) | (simp only []; simp; omega)) ?_
   refine WC.skip ?_
   refine hK24 _ _ ?_
   refine WC.seq (fun K26 hK26 => ?_)
   refine WC.seq (fun K27 hK27 => ?_)
   refine WC.regionH2 (fun w' => St _ _ _ w') (fun w' => St _ _ _ w') mixed (St.drew hs23) (St.drew hs23) (fun whs28 hs28 => ?_)
   replace hs28 : St _ _ _ _ := hs28
   refine WH.take 0 rfl (by kernel_rfl) rfl rfl rfl hs28 (fun w_ hs_ => (Run.loadLA (hs_ : St _ _ _ _) 0 Try.isAgg66 Try.sizeOf66 rfl rfl rfl rfl rfl)) ?_
   refine WH.take 1 rfl (by kernel_rfl) rfl rfl rfl hs28 (fun w_ hs_ => (Run.loadLA (hs_ : St _ _ _ _) 1 Try.isAgg59 Try.sizeOf59 rfl rfl rfl rfl rfl)) ?_
   refine WH.all [2] (by kernel_rfl) rfl (WHs.cons (i := 2) rfl ?_ WHs.nil)
   refine WL.call rfl rfl rfl (Run.call Try.call15 rfl rfl rfl) (c_laws_toState aS _ (okStateR.st0 f_aS hs28)) ?_
   rintro _ whs29 ⟨r30, L131, rfl, hs29, ho32, hd33⟩
   try simp only [hd13, hd19] at hd33
   replace hs29 := hs28.callF hs29
   refine ⟨_, rfl, ?_⟩
   replace hs29 := St.back [_, _] hs29
   refine WL.nil ⟨(St.drop (St.perm hs29 (L' := L131 ++ _) (perm_front (A := [_, _]) (List.Perm.refl _))) (List.sublist_append_right L131 _)), ?_⟩
   refine WH.all [3] (by kernel_rfl) rfl (WHs.cons (i := 3) rfl ?_ WHs.nil)
   refine WL.call rfl rfl rfl (Run.call Try.call17 rfl rfl rfl) (c_laws_eqState r16 r30 _ (ownStateR.ok (B := 549755813888) ho18 (fun p_ hp_ => (hs29.own p_ (List.mem_append_right [_, _] (List.mem_append_right _ (List.mem_append_left _ hp_)))).1) (by rw [hd19]; assumption)) (ownStateR.ok (B := 549755813888) ho32 (fun p_ hp_ => (hs29.own p_ (List.mem_append_right [_, _] (List.mem_append_left _ hp_))).1) (by rw [hd33]; assumption)) ?_) ?_
   · first | (first | assumption | rfl | omega) | (first | assumption | omega | (simp only [hd13, hd19, hd33]; first | done | assumption | omega))
   rintro _ whs34 ⟨rfl, hs34⟩
   replace hs34 := hs29.call0 hs34
   refine ⟨_, rfl, ?_⟩
   refine WL.nil ⟨(St.drop (St.perm hs34 (L' := L131 ++ _) (perm_front (A := [_, _]) (List.Perm.refl _))) (List.sublist_append_right L131 _)), ?_⟩
   refine WH.take 4 rfl (by kernel_rfl) rfl rfl rfl (St.drop (St.perm hs34 (L' := L131 ++ _) (perm_front (A := [_, _]) (List.Perm.refl _))) (List.sublist_append_right L131 _)) (fun w_ hs_ => (Run.not rfl rfl)) ?_
   refine WH.done (by kernel_rfl) ?_
   refine hK27 _ _ ?_
   refine WC.condF rfl (by first | (simp; done) | (simp; omega) | (simp [hd13, hd19, hd33]; done) | (simp only []; simp; omega)) ?_
   refine WC.skip ?_
   refine hK26 _ _ ?_
   refine WC.rr tbk hs34 [] rfl trivial ?_
   refine WC.ret ?_
   refine retV1 rfl (resV.tmp rfl) ?_
   refine ⟨congrArg Ending.returned ?_, hs34.nil⟩
   rfl
set_option maxHeartbeats 8000000 in
theorem c_laws_FnExactSessOf (aS : StateR) (p : Int) (w : World) (f_aS : okStateR 9223372036854775807 w aS) :
    Calls Try.prog 7 #[.agg #[i64 aS.W, i64 aS.H, i64 aS.Limit, i64 aS.Next, .slice aS.Panes.A aS.Panes.n aS.Panes.c, .slice aS.Wins.A aS.Wins.n aS.Wins.c, .slice aS.Sess.A aS.Sess.n aS.Sess.c], i64 p] w fun e w' => e = .returned (.bool true) ∧ St w [] [] w' := by
 have nb_aS_Panes := f_aS.Panes_n
 have nl_aS_Panes := f_aS.Panes.sl.len
 have nb_aS_Wins := f_aS.Wins_n
 have nl_aS_Wins := f_aS.Wins.sl.len
 have nb_aS_Sess := f_aS.Sess_n
 have nl_aS_Sess := f_aS.Sess.sl.len
 refine enter (vs := [.agg #[i64 aS.W, i64 aS.H, i64 aS.Limit, i64 aS.Next, .slice aS.Panes.A aS.Panes.n aS.Panes.c, .slice aS.Wins.A aS.Wins.n aS.Wins.c, .slice aS.Sess.A aS.Sess.n aS.Sess.c], i64 p]) 31 Try.func7 rfl Try.ntmps7 rfl rfl ?_
 have hs1 := St.init w
 refine WC.sr ?_
 refine WL.bx hs1 rfl (fun b2 _ hs3 => ?_)
 refine WL.run tbk 1 hs3 [] rfl trivial ?_
 refine WL.nil ?_
 refine WC.rr tbk hs3 [] rfl trivial ?_
 refine WC.sr ?_
 refine WL.run tbk 2 hs3 [0] rfl ⟨rfl, trivial⟩ ?_
 refine WL.call rfl rfl rfl (Run.call Try.call13 rfl rfl rfl) (c_laws_szState aS _ _ (okStateR.st0 f_aS hs3) ?_ ?_) ?_
 · first | (first | assumption | omega) | (first | assumption | omega | (simp only []; first | done | assumption | omega))
 · first | (first | assumption | omega | exact szR_b (by assumption) (by omega) (by first | assumption | omega)) | (first | assumption | omega | (simp only []; first | done | assumption | omega))
 rintro _ whs4 ⟨rfl, hs4⟩
 replace hs4 := hs3.call0 hs4
 refine ⟨_, rfl, ?_⟩
 refine WL.run tbk 1 hs4 [] rfl trivial ?_
 refine WL.nil ?_
 refine WC.seq (fun K5 hK5 => ?_)
 refine WC.rr tbk hs4 [] rfl trivial ?_
 refine WC.cD rfl (fun qh6 => ?_) (fun qh6 => ?_)
 ·refine WC.rr tbk hs4 [] rfl trivial ?_
  refine WC.ret ?_
  refine tkR ?_
  clear hK5
  refine retV1 rfl (resV.tmp rfl) ?_
  refine ⟨congrArg Ending.returned ?_, hs4.nil⟩
  rfl
 ·simp only [szR] at qh6
  have hb_aS : totState aS.dat ≤ 1048576 := by split at qh6 <;> omega
  have hsm_aS : smState 1048576 aS.dat := totState_sm hb_aS
  have hsB_aS : smState 549755813888 aS.dat := totState_sm (by omega)
  have f_aS := f_aS.to hsB_aS
  refine WC.skip ?_
  refine hK5 _ _ ?_
  refine WC.sr ?_
  refine WL.run tbk 1 hs4 [0] rfl ⟨rfl, trivial⟩ ?_
  refine WL.call rfl rfl rfl (Run.call Try.call15 rfl rfl rfl) (c_laws_toState aS _ (okStateR.st0 f_aS hs4)) ?_
  rintro _ whs7 ⟨r8, L19, rfl, hs7, ho10, hd11⟩
  replace hs7 := hs4.callF hs7
  refine ⟨_, rfl, ?_⟩
  replace hs7 := St.back [_] hs7
  refine WL.run tbk 1 hs7 [] rfl trivial ?_
  refine WL.call rfl rfl rfl (Run.call Try.call22 rfl rfl rfl) (c_spec_SessOf r8 _ _ (ownStateR.ok (B := 549755813888) ho10 (fun p_ hp_ => (hs7.own p_ (List.mem_append_right [_] (List.mem_append_left _ hp_))).1) (by rw [hd11]; assumption))) ?_
  rintro _ whs12 ⟨rfl, hs12⟩
  replace hs12 := hs7.call0 hs12
  refine ⟨_, rfl, ?_⟩
  refine WL.run tbk 1 hs12 [] rfl trivial ?_
  refine WL.nil ?_
  refine WC.sr ?_
  refine WL.run tbk 1 hs12 [0] rfl ⟨rfl, trivial⟩ ?_
  refine WL.call rfl rfl rfl (Run.call Try.call15 rfl rfl rfl) (c_laws_toState aS _ (okStateR.st0 f_aS hs12)) ?_
  rintro _ whs13 ⟨r14, L115, rfl, hs13, ho16, hd17⟩
  try simp only [hd11] at hd17
  replace hs13 := hs12.callF hs13
  refine ⟨_, rfl, ?_⟩
  replace hs13 := St.back [_] hs13
  refine WL.al hs13 Try.zeroValue66 rfl rfl (fun b18 _ hs19 => ?_)
  refine WL.st tbk hs19 0 rfl rfl (fun _ hs20 => ?_)
  refine WL.nil ?_
  refine WC.sr ?_
  refine WL.run tbk 2 hs20 [0] rfl ⟨rfl, trivial⟩ ?_
  refine WL.call rfl rfl rfl (Run.call Try.call23 rfl rfl rfl) (c_impl_SessOf r14 _ _ (ownStateR.ok (B := 549755813888) ho16 (fun p_ hp_ => (hs20.own p_ (List.mem_append_right [_, _] (List.mem_append_left _ hp_))).1) (by rw [hd17]; assumption))) ?_
  rintro _ whs21 ⟨rfl, hs21⟩
  replace hs21 := hs20.call0 hs21
  refine ⟨_, rfl, ?_⟩
  refine WL.run tbk 1 hs21 [] rfl trivial ?_
  refine WL.nil ?_
  refine WC.seq (fun K22 hK22 => ?_)
  refine WC.rr tbk hs21 [] rfl trivial ?_
  refine WC.condF rfl (by first | (simp; done) | (simp; omega) | (simp [hd11, hd17]; done) | (simp only []; simp; omega)) ?_
  refine WC.skip ?_
  refine hK22 _ _ ?_
  refine WC.seq (fun K24 hK24 => ?_)
  refine WC.seq (fun K25 hK25 => ?_)
  refine WC.regionH2 (fun w' => St _ _ _ w') (fun w' => St _ _ _ w') mixed (St.drew hs21) (St.drew hs21) (fun whs26 hs26 => ?_)
  replace hs26 : St _ _ _ _ := hs26
  refine WH.take 0 rfl (by kernel_rfl) rfl rfl rfl hs26 (fun w_ hs_ => (Run.loadLA (hs_ : St _ _ _ _) 0 Try.isAgg66 Try.sizeOf66 rfl rfl rfl rfl rfl)) ?_
  refine WH.take 1 rfl (by kernel_rfl) rfl rfl rfl hs26 (fun w_ hs_ => (Run.loadLA (hs_ : St _ _ _ _) 1 Try.isAgg59 Try.sizeOf59 rfl rfl rfl rfl rfl)) ?_
  refine WH.all [2] (by kernel_rfl) rfl (WHs.cons (i := 2) rfl ?_ WHs.nil)
  refine WL.call rfl rfl rfl (Run.call Try.call15 rfl rfl rfl) (c_laws_toState aS _ (okStateR.st0 f_aS hs26)) ?_
  rintro _ whs27 ⟨r28, L129, rfl, hs27, ho30, hd31⟩
  try simp only [hd11, hd17] at hd31
  replace hs27 := hs26.callF hs27
  refine ⟨_, rfl, ?_⟩
  replace hs27 := St.back [_, _] hs27
  refine WL.nil ⟨(St.drop (St.perm hs27 (L' := L129 ++ _) (perm_front (A := [_, _]) (List.Perm.refl _))) (List.sublist_append_right L129 _)), ?_⟩
  refine WH.all [3] (by kernel_rfl) rfl (WHs.cons (i := 3) rfl ?_ WHs.nil)
  refine WL.call rfl rfl rfl (Run.call Try.call17 rfl rfl rfl) (c_laws_eqState r14 r28 _ (ownStateR.ok (B := 549755813888) ho16 (fun p_ hp_ => (hs27.own p_ (List.mem_append_right [_, _] (List.mem_append_right _ (List.mem_append_left _ hp_)))).1) (by rw [hd17]; assumption)) (ownStateR.ok (B := 549755813888) ho30 (fun p_ hp_ => (hs27.own p_ (List.mem_append_right [_, _] (List.mem_append_left _ hp_))).1) (by rw [hd31]; assumption)) ?_) ?_
  · first | (first | assumption | rfl | omega) | (first | assumption | omega | (simp only [hd11, hd17, hd31]; first | done | assumption | omega))
  rintro _ whs32 ⟨rfl, hs32⟩
  replace hs32 := hs27.call0 hs32
  refine ⟨_, rfl, ?_⟩
  refine WL.nil ⟨(St.drop (St.perm hs32 (L' := L129 ++ _) (perm_front (A := [_, _]) (List.Perm.refl _))) (List.sublist_append_right L129 _)), ?_⟩
  refine WH.take 4 rfl (by kernel_rfl) rfl rfl rfl (St.drop (St.perm hs32 (L' := L129 ++ _) (perm_front (A := [_, _]) (List.Perm.refl _))) (List.sublist_append_right L129 _)) (fun w_ hs_ => (Run.not rfl rfl)) ?_
  refine WH.done (by kernel_rfl) ?_
  refine hK25 _ _ ?_
  refine WC.condF rfl (by first | (simp; done) | (simp; omega) | (simp [hd11, hd17, hd31]; done) | (simp only []; simp; omega)) ?_
  refine WC.skip ?_
  refine hK24 _ _ ?_
  refine WC.rr tbk hs32 [] rfl trivial ?_
  refine WC.ret ?_
  refine retV1 rfl (resV.tmp rfl) ?_
  refine ⟨congrArg Ending.returned ?_, hs32.nil⟩
  rfl
end Go.Proofs.Ytmkgffhdbagmjaa
