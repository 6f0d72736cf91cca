/- Walks of Go functions, printed by a program (wip/gen). -/
import Derived.Test.YtlmcekfdlgkffaaP8
import Derived.Test.YtlmcekfdlgkffaaM10
namespace Go.Proofs.Ytlmcekfdlgkffaa
open Go Go.RowKit
set_option linter.unusedVariables false
set_option linter.unusedSimpArgs false
set_option maxHeartbeats 4000000 in
theorem c_laws_markAct (a : ActR) (L_a : Hp) (k : Int) (w : World) (o_a : ownActR a L_a) (h_a : ∀ p, p ∈ L_a → w.heap[p.1]? = some p.2) (hd_ : ((L_a).map (·.1)).Nodup) (h1 : 0 ≤ k) (h2 : endAct k a ≤ 1099511627776) :
    Calls Try.prog 24 #[.agg #[i64 a.Kind, i64 a.R, .bool a.Mark, .slice a.Args.A a.Args.n a.Args.c], i64 k] w fun e w' => ∃ L1, e = .returned (.int .i64 (endAct k a)) ∧ St w (L_a.map (·.1)) L1 w' ∧ ownActR (markAct k a) L1 := by
 have hq2 := h2
 simp only [endAct] at hq2
 refine enter (vs := [.agg #[i64 a.Kind, i64 a.R, .bool a.Mark, .slice a.Args.A a.Args.n a.Args.c], i64 k]) 10 Try.func24 rfl Try.ntmps24 rfl rfl ?_
 have hs1 := St.takes1 w L_a h_a hd_
 refine WC.sr ?_
 refine WL.bx hs1 rfl (fun b2 _ hs3 => ?_)
 refine WL.run tbk 1 hs3 [] rfl trivial ?_
 refine WL.nil ?_
 refine WC.sr ?_
 refine WL.run tbk 3 hs3 [0] rfl ⟨rfl, trivial⟩ ?_
 refine WL.call rfl rfl rfl (Run.call Try.call75 rfl rfl rfl) (c_laws_markIntS _ _ _ _ _ o_a (fun p_ hp_ => (hs3.own p_ (List.mem_append_right [_] (List.mem_append_left _ hp_))).1) ?_ ?_ ?_) ?_
 · first | (first | assumption | rfl | omega) | (simp only [endAct]; omega)
 · first | (first | assumption | rfl | omega) | (simp only [endAct]; omega)
 · first | (first | assumption | rfl | omega) | (simp only [endAct]; omega)
 rintro _ whs4 ⟨L15, rfl, hs4, ho6⟩
 replace hs4 := St.lend (St.perm hs3 (L' := L_a ++ _) (perm_front (A := [_]) (List.Perm.refl _))) hs4
 refine ⟨_, rfl, ?_⟩
 replace hs4 := St.back [_] hs4
 refine WL.run tbk 1 hs4 [] rfl trivial ?_
 refine WL.nil ?_
 refine WC.rr tbk hs4 [] rfl trivial ?_
 refine WC.ret ?_
 refine retV1 rfl (resV.tmp rfl) ?_
 refine ⟨_, congrArg Ending.returned ?_, (St.keep1 (St.perm hs4 (L' := L15 ++ _) (perm_front (A := [_]) (List.Perm.refl _)))), ho6⟩
 first | rfl | (simp [endAct]; done) | (simp [endAct]; omega)
set_option maxHeartbeats 4000000 in
theorem c_laws_heldAct (a : ActR) (k : Int) (w : World) (f_a : okActR 1099511627776 w (markAct k a)) (h1 : 0 ≤ k) (h2 : endAct k a ≤ 1099511627776) :
    Calls Try.prog 26 #[.agg #[i64 a.Kind, i64 a.R, .bool a.Mark, .slice a.Args.A a.Args.n a.Args.c], i64 k] w fun e w' => e = .returned (.int .i64 (endAct k a)) ∧ St w [] [] w' := by
 have nb_Args : a.Args.n ≤ 1099511627776 := f_a.Args_n
 have nl_Args : a.Args.xs.length = a.Args.n := by have h_ := f_a.Args.len; simpa [markAct, marks_len, mrks_len] using h_
 have nb_Args : a.Args.n ≤ 1099511627776 := f_a.Args_n
 have nl_Args : a.Args.xs.length = a.Args.n := by have h_ := f_a.Args.len; simpa [markAct, marks_len, mrks_len] using h_
 have hq2 := h2
 simp only [endAct] at hq2
 refine enter (vs := [.agg #[i64 a.Kind, i64 a.R, .bool a.Mark, .slice a.Args.A a.Args.n a.Args.c], i64 k]) 12 Try.func26 rfl Try.ntmps26 rfl rfl ?_
 have hs1 := St.init w
 refine WC.sr ?_
 refine WL.bx hs1 rfl (fun b2 _ hs3 => ?_)
 refine WL.run tbk 1 hs3 [] rfl trivial ?_
 refine WL.nil ?_
 refine WC.sr ?_
 refine WL.run tbk 3 hs3 [0] rfl ⟨rfl, trivial⟩ ?_
 refine WL.call rfl rfl rfl (Run.call Try.call76 rfl rfl rfl) (c_laws_heldIntS _ _ _ _ _ _ _ (SlF.st0 f_a.Args hs3) rfl ?_ ?_ ?_) ?_
 · first | (first | assumption | rfl | omega) | (simp only [endAct]; omega)
 · first | (first | assumption | rfl | omega) | (simp only [endAct]; omega)
 · first | (first | assumption | rfl | omega) | (simp only [endAct]; omega)
 rintro _ whs4 ⟨rfl, hs4⟩
 replace hs4 := hs3.call0 hs4
 refine ⟨_, rfl, ?_⟩
 refine WL.run tbk 1 hs4 [] rfl trivial ?_
 refine WL.nil ?_
 refine WC.seq (fun K5 hK5 => ?_)
 refine WC.rr tbk hs4 [] rfl trivial ?_
 refine WC.condF rfl (by first | (simp; omega) | (rw [decide_eq_false_iff_not]; simp only [endAct]; omega)) ?_
 refine WC.skip ?_
 refine hK5 _ _ ?_
 refine WC.rr tbk hs4 [] rfl trivial ?_
 refine WC.ret ?_
 refine retV1 rfl (resV.tmp rfl) ?_
 refine ⟨congrArg Ending.returned ?_, hs4.nil⟩
 first | rfl | (simp [endAct, *]; done) | (simp [endAct, *]; omega)
set_option maxHeartbeats 8000000 in
theorem c_laws_FnExactVpByte (aP : VpR) (aB : Int) (w : World) (f_aP : okVpR 9223372036854775807 w aP) :
    Calls Try.prog 4 #[.agg #[i64 aP.State, .bool aP.Mark, .slice aP.Args.A aP.Args.n aP.Args.c, .slice aP.Part.A aP.Part.n aP.Part.c], i64 aB] w fun e w' => e = .returned (.bool true) ∧ St w [] [] w' := by
 have nb_aP_Args := f_aP.Args_n
 have nl_aP_Args := f_aP.Args.len
 have nb_aP_Part := f_aP.Part_n
 have nl_aP_Part := f_aP.Part.len
 refine enter (vs := [.agg #[i64 aP.State, .bool aP.Mark, .slice aP.Args.A aP.Args.n aP.Args.c, .slice aP.Part.A aP.Part.n aP.Part.c], i64 aB]) 117 Try.func4 rfl Try.ntmps4 rfl rfl ?_
 have hs1 := St.init w
 refine WC.sr ?_
 refine WL.bx hs1 rfl (fun b2 _ hs3 => ?_)
 refine WL.run tbk 1 hs3 [] rfl trivial ?_
 refine WL.nil ?_
 refine WC.rr tbk hs3 [] rfl trivial ?_
 refine WC.sr ?_
 refine WL.run tbk 2 hs3 [0] rfl ⟨rfl, trivial⟩ ?_
 refine WL.call rfl rfl rfl (Run.call Try.call17 rfl rfl rfl) (c_laws_szVp aP _ _ (okVpR.st0 f_aP hs3) ?_ ?_) ?_
 · first | (first | assumption | omega) | (first | assumption | omega | (simp only [endAct, endGrid, endScr, endTerm, endVp]; first | done | assumption | omega))
 · first | (first | assumption | omega | exact szR_b (by assumption) (by omega) (by first | assumption | omega)) | (first | assumption | omega | (simp only [endAct, endGrid, endScr, endTerm, endVp]; first | done | assumption | omega))
 rintro _ whs4 ⟨rfl, hs4⟩
 replace hs4 := hs3.call0 hs4
 refine ⟨_, rfl, ?_⟩
 refine WL.run tbk 1 hs4 [] rfl trivial ?_
 refine WL.nil ?_
 refine WC.seq (fun K5 hK5 => ?_)
 refine WC.rr tbk hs4 [] rfl trivial ?_
 refine WC.cD rfl (fun qh6 => ?_) (fun qh6 => ?_)
 ·refine WC.rr tbk hs4 [] rfl trivial ?_
  refine WC.ret ?_
  refine tkR ?_
  clear hK5
  refine retV1 rfl (resV.tmp rfl) ?_
  refine ⟨congrArg Ending.returned ?_, hs4.nil⟩
  rfl
 ·simp only [szR] at qh6
  have hb_aP : totVp aP.dat ≤ 1048576 := by split at qh6 <;> omega
  have hsm_aP : smVp 1048576 aP.dat := totVp_sm hb_aP
  have hsB_aP : smVp 1099511627776 aP.dat := totVp_sm (by omega)
  have f_aP := f_aP.to hsB_aP
  obtain ⟨hR0, hR1⟩ := vpByte_sm (b := aB) hsm_aP
  have hR0B : smVp 1099511627776 (vpByte aP.dat aB).1 := ⟨Nat.le_trans hR0.1 (by decide), Nat.le_trans hR0.2 (by decide)⟩
  have hR1B : smAct 1099511627776 (vpByte aP.dat aB).2 := Nat.le_trans hR1 (by decide)
  refine WC.skip ?_
  refine hK5 _ _ ?_
  refine WC.sr ?_
  refine WL.run tbk 1 hs4 [0] rfl ⟨rfl, trivial⟩ ?_
  refine WL.call rfl rfl rfl (Run.call Try.call19 rfl rfl rfl) (c_laws_toVp aP _ (okVpR.st0 f_aP hs4)) ?_
  rintro _ whs7 ⟨r8, L19, rfl, hs7, ho10, hd11⟩
  replace hs7 := hs4.callF hs7
  refine ⟨_, rfl, ?_⟩
  replace hs7 := St.back [_] hs7
  refine WL.run tbk 1 hs7 [] rfl trivial ?_
  refine WL.call rfl rfl rfl (Run.call Try.call18 rfl rfl rfl) (c_spec_VpByte r8 _ _ (ownVpR.ok (B := 1099511627776) ho10 (fun p_ hp_ => (hs7.own p_ (List.mem_append_right [_] (List.mem_append_left _ hp_))).1) (by rw [hd11]; assumption)) ?_) ?_
  · first | (first | assumption | rfl | omega) | (first | assumption | omega | (simp only [hd11, endAct, endGrid, endScr, endTerm, endVp]; first | done | assumption | omega))
  rintro _ whs12 ⟨r013, L014, r115, L116, rfl, hs12, ho17, ho18, hd019, hd120⟩
  try simp only [hd11] at hd019
  try simp only [hd11] at hd120
  replace hs12 := hs7.callF hs12
  refine ⟨_, rfl, ?_⟩
  replace hs12 := St.assoc hs12
  replace hs12 := St.back2 [_] hs12
  refine WL.run tbk 3 hs12 [] rfl trivial ?_
  refine WL.al hs12 Try.zeroValue25 rfl rfl (fun b21 _ hs22 => ?_)
  refine WL.al hs22 Try.zeroValue44 rfl rfl (fun b23 _ hs24 => ?_)
  refine WL.st tbk hs24 1 rfl rfl (fun _ hs25 => ?_)
  refine WL.st tbk hs25 0 rfl rfl (fun _ hs26 => ?_)
  refine WL.nil ?_
  refine WC.sr ?_
  refine WL.run tbk 1 hs26 [2] rfl ⟨rfl, trivial⟩ ?_
  refine WL.call rfl rfl rfl (Run.call Try.call19 rfl rfl rfl) (c_laws_toVp aP _ (okVpR.st0 f_aP hs26)) ?_
  rintro _ whs27 ⟨r28, L129, rfl, hs27, ho30, hd31⟩
  try simp only [hd11, hd019, hd120] at hd31
  replace hs27 := hs26.callF hs27
  refine ⟨_, rfl, ?_⟩
  replace hs27 := St.back [_, _, _] hs27
  have v_Args : r28.Args.xs.length ≤ 1048576 := by have h_ : smVp 1048576 r28.dat := by { rw [hd31]; exact hsm_aP }; simp only [smVp, VpR.dat] at h_; omega
  have v_Part : r28.Part.xs.length ≤ 1048576 := by have h_ : smVp 1048576 r28.dat := by { rw [hd31]; exact hsm_aP }; simp only [smVp, VpR.dat] at h_; omega
  refine WL.al hs27 Try.zeroValue25 rfl rfl (fun b32 _ hs33 => ?_)
  refine WL.st tbk hs33 0 rfl rfl (fun _ hs34 => ?_)
  refine WL.nil ?_
  refine WC.sr ?_
  refine WL.run tbk 2 hs34 [0] rfl ⟨rfl, trivial⟩ ?_
  refine WL.call rfl rfl rfl (Run.call Try.call20 rfl rfl rfl) (c_impl_VpByte r28 _ _ (ownVpR.ok (B := 1099511627776) ho30 (fun p_ hp_ => (hs34.own p_ (List.mem_append_right [_, _, _, _] (List.mem_append_left _ hp_))).1) (by rw [hd31]; assumption)) ?_) ?_
  · first | (first | assumption | rfl | omega) | (first | assumption | omega | (simp only [hd11, hd019, hd120, hd31, endAct, endGrid, endScr, endTerm, endVp]; first | done | assumption | omega))
  rintro _ whs35 ⟨r036, L037, r138, L139, rfl, hs35, ho40, ho41, hd042, hd143⟩
  try simp only [hd11, hd019, hd120, hd31] at hd042
  try simp only [hd11, hd019, hd120, hd31] at hd143
  replace hs35 := hs34.callF hs35
  refine ⟨_, rfl, ?_⟩
  replace hs35 := St.assoc hs35
  replace hs35 := St.back2 [_, _, _, _] hs35
  have u0 : r036.Args.xs.length ≤ 1048577 := by have h_ : r036.dat.Args.length ≤ 1048577 := by { rw [hd042]; exact hR0.1 }; exact h_
  have u1 : r036.Part.xs.length ≤ 1048577 := by have h_ : r036.dat.Part.length ≤ 1048577 := by { rw [hd042]; exact hR0.2 }; exact h_
  have u2 : r138.Args.xs.length ≤ 1048577 := by have h_ : r138.dat.Args.length ≤ 1048577 := by { rw [hd143]; exact hR1 }; exact h_
  refine WL.run tbk 3 hs35 [] rfl trivial ?_
  refine WL.al hs35 Try.zeroValue25 rfl rfl (fun b44 _ hs45 => ?_)
  refine WL.al hs45 Try.zeroValue44 rfl rfl (fun b46 _ hs47 => ?_)
  refine WL.st tbk hs47 1 rfl rfl (fun _ hs48 => ?_)
  refine WL.st tbk hs48 0 rfl rfl (fun _ hs49 => ?_)
  refine WL.nil ?_
  refine WC.seq (fun K50 hK50 => ?_)
  refine WC.sr ?_
  refine WL.run tbk 2 hs49 [1, 4] rfl ⟨rfl, rfl, trivial⟩ ?_
  refine WL.call rfl rfl rfl (Run.call Try.call21 rfl rfl rfl) (c_laws_eqVp r036 r013 _ (ownVpR.ok (B := 1099511627776) ho40 (fun p_ hp_ => (hs49.own p_ (List.mem_append_right [_, _, _, _, _, _] (List.mem_append_left _ hp_))).1) (by rw [hd042]; assumption)) (ownVpR.ok (B := 1099511627776) ho17 (fun p_ hp_ => (hs49.own p_ (List.mem_append_right [_, _, _, _, _, _] (List.mem_append_right _ (List.mem_append_right _ (List.mem_append_right _ (List.mem_append_left _ hp_)))))).1) (by rw [hd019]; assumption)) ?_) ?_
  · first | (first | assumption | rfl | omega) | (first | assumption | omega | (simp only [hd11, hd019, hd120, hd31, hd042, hd143, endAct, endGrid, endScr, endTerm, endVp]; first | done | assumption | omega))
  rintro _ whs51 ⟨rfl, hs51⟩
  replace hs51 := hs49.call0 hs51
  refine ⟨_, rfl, ?_⟩
  refine WL.run tbk 2 hs51 [] rfl trivial ?_
  apply WL.gO 4 Acts.nil hs51 rfl
  ·intro g52 J53
   have qg52 := g52
   try simp only [bf, within_iff, within_not] at qg52
   refine WL.runA tbk 2 (Acts.nil.cons (j := 4) rfl g52) hs51 [0, 3] rfl ⟨rfl, rfl, trivial⟩ ?_
   refine WL.call (wantF rfl g52) rfl rfl (Run.call Try.call22 rfl rfl rfl) (c_laws_eqAct r138 r115 _ (ownActR.ok (B := 1099511627776) ho41 (fun p_ hp_ => (hs51.own p_ (List.mem_append_right [_, _, _, _, _, _] (List.mem_append_right _ (List.mem_append_left _ hp_)))).1) (by rw [hd143]; assumption)) (ownActR.ok (B := 1099511627776) ho18 (fun p_ hp_ => (hs51.own p_ (List.mem_append_right [_, _, _, _, _, _] (List.mem_append_right _ (List.mem_append_right _ (List.mem_append_right _ (List.mem_append_right _ (List.mem_append_left _ hp_))))))).1) (by rw [hd120]; assumption)) ?_) ?_
   · first | (first | assumption | rfl | omega) | (first | assumption | omega | (simp only [hd11, hd019, hd120, hd31, hd042, hd143, endAct, endGrid, endScr, endTerm, endVp]; first | done | assumption | omega))
   rintro _ whs54 ⟨rfl, hs54⟩
   replace hs54 := hs51.call0 hs54
   refine ⟨_, rfl, ?_⟩
   refine WL.runA tbk 1 (Acts.nil.cons (j := 4) rfl g52) hs54 [] rfl trivial ?_
   exact WL.eO 4 Acts.nil J53 hs54 g52 rfl rfl
  ·intro _ hs55
   refine WL.nil ?_
   refine WC.condF rfl (by first | (simp; done) | (simp; omega) | (simp [hd11, hd019, hd120, hd31, hd042, hd143]; done) | (simp only [endAct, endGrid, endScr, endTerm, endVp]; simp; omega)) ?_
   refine WC.skip ?_
   refine hK50 _ _ ?_
   refine WC.seq (fun K57 hK57 => ?_)
   refine WC.seq (fun K58 hK58 => ?_)
   refine WC.regionH2 (fun w' => St _ _ _ w') (fun w' => St _ _ _ w') mixed (St.drew hs55) (St.drew hs55) (fun whs59 hs59 => ?_)
   replace hs59 : St _ _ _ _ := hs59
   refine WH.take 0 rfl (by kernel_rfl) rfl rfl rfl hs59 (fun w_ hs_ => (Run.loadLA (hs_ : St _ _ _ _) 2 Try.isAgg25 Try.sizeOf25 rfl rfl rfl rfl rfl)) ?_
   refine WH.take 1 rfl (by kernel_rfl) rfl rfl rfl hs59 (fun w_ hs_ => (Run.loadLA (hs_ : St _ _ _ _) 5 Try.isAgg41 Try.sizeOf41 rfl rfl rfl rfl rfl)) ?_
   refine WH.all [2] (by kernel_rfl) rfl (WHs.cons (i := 2) rfl ?_ WHs.nil)
   refine WL.call rfl rfl rfl (Run.call Try.call19 rfl rfl rfl) (c_laws_toVp aP _ (okVpR.st0 f_aP hs59)) ?_
   rintro _ whs60 ⟨r61, L162, rfl, hs60, ho63, hd64⟩
   try simp only [hd11, hd019, hd120, hd31, hd042, hd143] at hd64
   replace hs60 := hs59.callF hs60
   refine ⟨_, rfl, ?_⟩
   replace hs60 := St.back [_, _, _, _, _, _] hs60
   refine WL.nil ⟨(St.drop (St.perm hs60 (L' := L162 ++ _) (perm_front (A := [_, _, _, _, _, _]) (List.Perm.refl _))) (List.sublist_append_right L162 _)), ?_⟩
   refine WH.all [3] (by kernel_rfl) rfl (WHs.cons (i := 3) rfl ?_ WHs.nil)
   refine WL.call rfl rfl rfl (Run.call Try.call21 rfl rfl rfl) (c_laws_eqVp r28 r61 _ (ownVpR.ok (B := 1099511627776) ho30 (fun p_ hp_ => (hs60.own p_ (List.mem_append_right [_, _, _, _, _, _] (List.mem_append_right _ (List.mem_append_right _ (List.mem_append_right _ (List.mem_append_left _ hp_)))))).1) (by rw [hd31]; assumption)) (ownVpR.ok (B := 1099511627776) ho63 (fun p_ hp_ => (hs60.own p_ (List.mem_append_right [_, _, _, _, _, _] (List.mem_append_left _ hp_))).1) (by rw [hd64]; assumption)) ?_) ?_
   · first | (first | assumption | rfl | omega) | (first | assumption | omega | (simp only [hd11, hd019, hd120, hd31, hd042, hd143, hd64, endAct, endGrid, endScr, endTerm, endVp]; first | done | assumption | omega))
   rintro _ whs65 ⟨rfl, hs65⟩
   replace hs65 := hs60.call0 hs65
   refine ⟨_, rfl, ?_⟩
   refine WL.nil ⟨(St.drop (St.perm hs65 (L' := L162 ++ _) (perm_front (A := [_, _, _, _, _, _]) (List.Perm.refl _))) (List.sublist_append_right L162 _)), ?_⟩
   refine WH.take 4 rfl (by kernel_rfl) rfl rfl rfl (St.drop (St.perm hs65 (L' := L162 ++ _) (perm_front (A := [_, _, _, _, _, _]) (List.Perm.refl _))) (List.sublist_append_right L162 _)) (fun w_ hs_ => (Run.not rfl rfl)) ?_
   refine WH.done (by kernel_rfl) ?_
   refine hK58 _ _ ?_
   refine WC.condF rfl (by first | (simp; done) | (simp; omega) | (simp [hd11, hd019, hd120, hd31, hd042, hd143, hd64]; done) | (simp only [endAct, endGrid, endScr, endTerm, endVp]; simp; omega)) ?_
   refine WC.skip ?_
   refine hK57 _ _ ?_
   refine WC.rr tbk hs65 [] rfl trivial ?_
   refine WC.sr ?_
   refine WL.run tbk 2 hs65 [2] rfl ⟨rfl, trivial⟩ ?_
   refine WL.call rfl rfl rfl (Run.call Try.call23 rfl rfl rfl) (c_laws_markVp r28 _ _ _ ho30 (fun p_ hp_ => (hs65.own p_ (List.mem_append_right [_, _, _, _, _, _] (List.mem_append_right _ (List.mem_append_right _ (List.mem_append_right _ (List.mem_append_left _ hp_)))))).1) (St.nodupL (St.perm hs65 (L' := L129 ++ _) (perm_front (A := [_, _, _, _, _, _]) (perm_front (A := L162) (perm_front (A := L037) (perm_front (A := L139) (List.Perm.refl _))))))) ?_ ?_) ?_
   · first | (first | assumption | omega) | (first | assumption | omega | (simp only [hd11, hd019, hd120, hd31, hd042, hd143, hd64, endAct, endGrid, endScr, endTerm, endVp]; first | done | assumption | omega))
   · first | (first | assumption | omega | (simp only [endVp]; omega)) | (first | assumption | omega | (simp only [hd11, hd019, hd120, hd31, hd042, hd143, hd64, endAct, endGrid, endScr, endTerm, endVp]; first | done | assumption | omega))
   rintro _ whs67 ⟨L168, rfl, hs67, ho69⟩
   replace hs67 := St.lend (St.perm hs65 (L' := L129 ++ _) (perm_front (A := [_, _, _, _, _, _]) (perm_front (A := L162) (perm_front (A := L037) (perm_front (A := L139) (List.Perm.refl _)))))) hs67
   refine ⟨_, rfl, ?_⟩
   replace hs67 := St.back [_, _, _, _, _, _] hs67
   refine WL.run tbk 1 hs67 [] rfl trivial ?_
   refine WL.nil ?_
   refine WC.seq (fun K70 hK70 => ?_)
   refine WC.sr ?_
   refine WL.run tbk 3 hs67 [] rfl trivial ?_
   apply WL.gO 4 Acts.nil hs67 rfl
   ·intro g71 J72
    have qg71 := g71
    try simp only [bf, within_iff, within_not] at qg71
    refine WL.runA tbk 2 (Acts.nil.cons (j := 2) rfl g71) hs67 [1, 4] rfl ⟨rfl, rfl, trivial⟩ ?_
    refine WL.call (wantF rfl g71) rfl rfl (Run.call Try.call21 rfl rfl rfl) (c_laws_eqVp r036 r013 _ (ownVpR.ok (B := 1099511627776) ho40 (fun p_ hp_ => (hs67.own p_ (List.mem_append_right [_, _, _, _, _, _] (List.mem_append_right _ (List.mem_append_right _ (List.mem_append_left _ hp_))))).1) (by rw [hd042]; assumption)) (ownVpR.ok (B := 1099511627776) ho17 (fun p_ hp_ => (hs67.own p_ (List.mem_append_right [_, _, _, _, _, _] (List.mem_append_right _ (List.mem_append_right _ (List.mem_append_right _ (List.mem_append_right _ (List.mem_append_left _ hp_))))))).1) (by rw [hd019]; assumption)) ?_) ?_
    · first | (first | assumption | rfl | omega) | (first | assumption | omega | (simp only [hd11, hd019, hd120, hd31, hd042, hd143, hd64, endAct, endGrid, endScr, endTerm, endVp]; first | done | assumption | omega))
    rintro _ whs73 ⟨rfl, hs73⟩
    replace hs73 := hs67.call0 hs73
    refine ⟨_, rfl, ?_⟩
    refine WL.runA tbk 1 (Acts.nil.cons (j := 2) rfl g71) hs73 [] rfl trivial ?_
    exact WL.eO 4 Acts.nil J72 hs73 g71 rfl rfl
   ·intro _ hs74
    refine WL.run tbk 1 hs74 [] rfl trivial ?_
    apply WL.gO 4 Acts.nil hs74 rfl
    ·intro g75 J76
     have qg75 := g75
     try simp only [bf, within_iff, within_not] at qg75
     refine WL.runA tbk 2 (Acts.nil.cons (j := 8) rfl g75) hs74 [0, 3] rfl ⟨rfl, rfl, trivial⟩ ?_
     refine WL.call (wantF rfl g75) rfl rfl (Run.call Try.call22 rfl rfl rfl) (c_laws_eqAct r138 r115 _ (ownActR.ok (B := 1099511627776) ho41 (fun p_ hp_ => (hs74.own p_ (List.mem_append_right [_, _, _, _, _, _] (List.mem_append_right _ (List.mem_append_right _ (List.mem_append_right _ (List.mem_append_left _ hp_)))))).1) (by rw [hd143]; assumption)) (ownActR.ok (B := 1099511627776) ho18 (fun p_ hp_ => (hs74.own p_ (List.mem_append_right [_, _, _, _, _, _] (List.mem_append_right _ (List.mem_append_right _ (List.mem_append_right _ (List.mem_append_right _ (List.mem_append_right _ (List.mem_append_left _ hp_)))))))).1) (by rw [hd120]; assumption)) ?_) ?_
     · first | (first | assumption | rfl | omega) | (first | assumption | omega | (simp only [hd11, hd019, hd120, hd31, hd042, hd143, hd64, endAct, endGrid, endScr, endTerm, endVp]; first | done | assumption | omega))
     rintro _ whs77 ⟨rfl, hs77⟩
     replace hs77 := hs74.call0 hs77
     refine ⟨_, rfl, ?_⟩
     refine WL.runA tbk 1 (Acts.nil.cons (j := 8) rfl g75) hs77 [] rfl trivial ?_
     exact WL.eO 4 Acts.nil J76 hs77 g75 rfl rfl
    ·intro _ hs78
     refine WL.nil ?_
     refine WC.condF rfl (by first | (simp; done) | (simp; omega) | (simp [hd11, hd019, hd120, hd31, hd042, hd143, hd64]; done) | (simp only [endAct, endGrid, endScr, endTerm, endVp]; simp; omega)) ?_
     refine WC.skip ?_
     refine hK70 _ _ ?_
     refine WC.rr tbk hs78 [] rfl trivial ?_
     refine WC.sr ?_
     refine WL.run tbk 2 hs78 [1] rfl ⟨rfl, trivial⟩ ?_
     refine WL.call rfl rfl rfl (Run.call Try.call23 rfl rfl rfl) (c_laws_markVp r036 _ _ _ ho40 (fun p_ hp_ => (hs78.own p_ (List.mem_append_right [_, _, _, _, _, _] (List.mem_append_right _ (List.mem_append_right _ (List.mem_append_left _ hp_))))).1) (St.nodupL (St.perm hs78 (L' := L037 ++ _) (perm_front (A := [_, _, _, _, _, _]) (perm_front (A := L168) (perm_front (A := L162) (List.Perm.refl _)))))) ?_ ?_) ?_
     · first | (first | assumption | omega) | (first | assumption | omega | (simp only [hd11, hd019, hd120, hd31, hd042, hd143, hd64, endAct, endGrid, endScr, endTerm, endVp]; first | done | assumption | omega))
     · first | (first | assumption | omega | (simp only [endVp]; omega)) | (first | assumption | omega | (simp only [hd11, hd019, hd120, hd31, hd042, hd143, hd64, endAct, endGrid, endScr, endTerm, endVp]; first | done | assumption | omega))
     rintro _ whs80 ⟨L181, rfl, hs80, ho82⟩
     replace hs80 := St.lend (St.perm hs78 (L' := L037 ++ _) (perm_front (A := [_, _, _, _, _, _]) (perm_front (A := L168) (perm_front (A := L162) (List.Perm.refl _))))) hs80
     refine ⟨_, rfl, ?_⟩
     replace hs80 := St.back [_, _, _, _, _, _] hs80
     refine WL.run tbk 1 hs80 [] rfl trivial ?_
     refine WL.nil ?_
     refine WC.sr ?_
     refine WL.run tbk 2 hs80 [0] rfl ⟨rfl, trivial⟩ ?_
     refine WL.call rfl rfl rfl (Run.call Try.call24 rfl rfl rfl) (c_laws_markAct r138 _ _ _ ho41 (fun p_ hp_ => (hs80.own p_ (List.mem_append_right [_, _, _, _, _, _] (List.mem_append_right _ (List.mem_append_right _ (List.mem_append_right _ (List.mem_append_left _ hp_)))))).1) (St.nodupL (St.perm hs80 (L' := L139 ++ _) (perm_front (A := [_, _, _, _, _, _]) (perm_front (A := L181) (perm_front (A := L168) (perm_front (A := L162) (List.Perm.refl _))))))) ?_ ?_) ?_
     · first | (first | assumption | omega) | (first | assumption | omega | (simp only [hd11, hd019, hd120, hd31, hd042, hd143, hd64, endAct, endGrid, endScr, endTerm, endVp]; first | done | assumption | omega))
     · first | (first | assumption | omega | (simp only [endAct]; omega)) | (first | assumption | omega | (simp only [hd11, hd019, hd120, hd31, hd042, hd143, hd64, endAct, endGrid, endScr, endTerm, endVp]; first | done | assumption | omega))
     rintro _ whs83 ⟨L184, rfl, hs83, ho85⟩
     replace hs83 := St.lend (St.perm hs80 (L' := L139 ++ _) (perm_front (A := [_, _, _, _, _, _]) (perm_front (A := L181) (perm_front (A := L168) (perm_front (A := L162) (List.Perm.refl _)))))) hs83
     refine ⟨_, rfl, ?_⟩
     replace hs83 := St.back [_, _, _, _, _, _] hs83
     refine WL.run tbk 1 hs83 [] rfl trivial ?_
     refine WL.nil ?_
     refine WC.rr tbk hs83 [] rfl trivial ?_
     refine WC.sr ?_
     refine WL.run tbk 2 hs83 [1] rfl ⟨rfl, trivial⟩ ?_
     refine WL.call rfl rfl rfl (Run.call Try.call25 rfl rfl rfl) (c_laws_heldVp _ _ _ (ownVpR.ok (B := 1099511627776) ho82 (fun p_ hp_ => (hs83.own p_ (List.mem_append_right [_, _, _, _, _, _] (List.mem_append_right _ (List.mem_append_left _ hp_)))).1) (markVp_sm (by rw [hd042]; assumption))) ?_ ?_) ?_
     · first | (first | assumption | omega) | (first | assumption | omega | (simp only [hd11, hd019, hd120, hd31, hd042, hd143, hd64, endAct, endGrid, endScr, endTerm, endVp]; first | done | assumption | omega))
     · first | (first | assumption | omega | (simp only [endVp]; omega)) | (first | assumption | omega | (simp only [hd11, hd019, hd120, hd31, hd042, hd143, hd64, endAct, endGrid, endScr, endTerm, endVp]; first | done | assumption | omega))
     rintro _ whs86 ⟨rfl, hs86⟩
     replace hs86 := hs83.call0 hs86
     refine ⟨_, rfl, ?_⟩
     refine WL.run tbk 1 hs86 [] rfl trivial ?_
     refine WL.nil ?_
     refine WC.seq (fun K87 hK87 => ?_)
     refine WC.rr tbk hs86 [] rfl trivial ?_
     refine WC.condF rfl (by first | (simp; done) | (simp; omega) | (simp [hd11, hd019, hd120, hd31, hd042, hd143, hd64]; done) | (simp only [endAct, endGrid, endScr, endTerm, endVp]; simp; omega)) ?_
     refine WC.skip ?_
     refine hK87 _ _ ?_
     refine WC.sr ?_
     refine WL.run tbk 2 hs86 [0] rfl ⟨rfl, trivial⟩ ?_
     refine WL.call rfl rfl rfl (Run.call Try.call26 rfl rfl rfl) (c_laws_heldAct _ _ _ (ownActR.ok (B := 1099511627776) ho85 (fun p_ hp_ => (hs86.own p_ (List.mem_append_right [_, _, _, _, _, _] (List.mem_append_left _ hp_))).1) (markAct_sm (by rw [hd143]; assumption))) ?_ ?_) ?_
     · first | (first | assumption | omega) | (first | assumption | omega | (simp only [hd11, hd019, hd120, hd31, hd042, hd143, hd64, endAct, endGrid, endScr, endTerm, endVp]; first | done | assumption | omega))
     · first | (first | assumption | omega | (simp only [endAct]; omega)) | (first | assumption | omega | (simp only [hd11, hd019, hd120, hd31, hd042, hd143, hd64, endAct, endGrid, endScr, endTerm, endVp]; first | done | assumption | omega))
     rintro _ whs89 ⟨rfl, hs89⟩
     replace hs89 := hs86.call0 hs89
     refine ⟨_, rfl, ?_⟩
     refine WL.run tbk 1 hs89 [] rfl trivial ?_
     refine WL.nil ?_
     refine WC.seq (fun K90 hK90 => ?_)
     refine WC.rr tbk hs89 [] rfl trivial ?_
     refine WC.condF rfl (by first | (simp; done) | (simp; omega) | (simp [hd11, hd019, hd120, hd31, hd042, hd143, hd64]; done) | (simp only [endAct, endGrid, endScr, endTerm, endVp]; simp; omega)) ?_
     refine WC.skip ?_
     refine hK90 _ _ ?_
     refine WC.seq (fun K92 hK92 => ?_)
     refine WC.rr tbk hs89 [] rfl trivial ?_
     refine WC.condF rfl (by first | (simp; done) | (simp; omega) | (simp [hd11, hd019, hd120, hd31, hd042, hd143, hd64]; done) | (simp only [endAct, endGrid, endScr, endTerm, endVp]; simp; omega)) ?_
     refine WC.skip ?_
     refine hK92 _ _ ?_
     refine WC.sr ?_
     refine WL.run tbk 1 hs89 [5] rfl ⟨rfl, trivial⟩ ?_
     refine WL.call rfl rfl rfl (Run.call Try.call19 rfl rfl rfl) (c_laws_toVp aP _ (okVpR.st0 f_aP hs89)) ?_
     rintro _ whs94 ⟨r95, L196, rfl, hs94, ho97, hd98⟩
     try simp only [hd11, hd019, hd120, hd31, hd042, hd143, hd64] at hd98
     replace hs94 := hs89.callF hs94
     refine ⟨_, rfl, ?_⟩
     replace hs94 := St.back [_, _, _, _, _, _] hs94
     refine WL.run tbk 1 hs94 [] rfl trivial ?_
     refine WL.call rfl rfl rfl (Run.call Try.call20 rfl rfl rfl) (c_impl_VpByte r95 _ _ (ownVpR.ok (B := 1099511627776) ho97 (fun p_ hp_ => (hs94.own p_ (List.mem_append_right [_, _, _, _, _, _] (List.mem_append_left _ hp_))).1) (by rw [hd98]; assumption)) ?_) ?_
     · first | (first | assumption | rfl | omega) | (first | assumption | omega | (simp only [hd11, hd019, hd120, hd31, hd042, hd143, hd64, hd98, endAct, endGrid, endScr, endTerm, endVp]; first | done | assumption | omega))
     rintro _ whs99 ⟨r0100, L0101, r1102, L1103, rfl, hs99, ho104, ho105, hd0106, hd1107⟩
     try simp only [hd11, hd019, hd120, hd31, hd042, hd143, hd64, hd98] at hd0106
     try simp only [hd11, hd019, hd120, hd31, hd042, hd143, hd64, hd98] at hd1107
     replace hs99 := hs94.callF hs99
     refine ⟨_, rfl, ?_⟩
     replace hs99 := St.assoc hs99
     replace hs99 := St.back2 [_, _, _, _, _, _] hs99
     refine WL.run tbk 3 hs99 [] rfl trivial ?_
     refine WL.al hs99 Try.zeroValue25 rfl rfl (fun b108 _ hs109 => ?_)
     refine WL.al hs109 Try.zeroValue44 rfl rfl (fun b110 _ hs111 => ?_)
     refine WL.st tbk hs111 1 rfl rfl (fun _ hs112 => ?_)
     refine WL.st tbk hs112 0 rfl rfl (fun _ hs113 => ?_)
     refine WL.nil ?_
     refine WC.seq (fun K114 hK114 => ?_)
     refine WC.sr ?_
     refine WL.run tbk 2 hs113 [1, 6] rfl ⟨rfl, rfl, trivial⟩ ?_
     refine WL.call rfl rfl rfl (Run.call Try.call21 rfl rfl rfl) (c_laws_eqVp r0100 r013 _ (ownVpR.ok (B := 1099511627776) ho104 (fun p_ hp_ => (hs113.own p_ (List.mem_append_right [_, _, _, _, _, _, _, _] (List.mem_append_left _ hp_))).1) (by rw [hd0106]; assumption)) (ownVpR.ok (B := 1099511627776) ho17 (fun p_ hp_ => (hs113.own p_ (List.mem_append_right [_, _, _, _, _, _, _, _] (List.mem_append_right _ (List.mem_append_right _ (List.mem_append_right _ (List.mem_append_right _ (List.mem_append_right _ (List.mem_append_right _ (List.mem_append_right _ (List.mem_append_left _ hp_)))))))))).1) (by rw [hd019]; assumption)) ?_) ?_
     · first | (first | assumption | rfl | omega) | (first | assumption | omega | (simp only [hd11, hd019, hd120, hd31, hd042, hd143, hd64, hd98, hd0106, hd1107, endAct, endGrid, endScr, endTerm, endVp]; first | done | assumption | omega))
     rintro _ whs115 ⟨rfl, hs115⟩
     replace hs115 := hs113.call0 hs115
     refine ⟨_, rfl, ?_⟩
     refine WL.run tbk 2 hs115 [] rfl trivial ?_
     apply WL.gO 4 Acts.nil hs115 rfl
     ·intro g116 J117
      have qg116 := g116
      try simp only [bf, within_iff, within_not] at qg116
      refine WL.runA tbk 2 (Acts.nil.cons (j := 4) rfl g116) hs115 [0, 5] rfl ⟨rfl, rfl, trivial⟩ ?_
      refine WL.call (wantF rfl g116) rfl rfl (Run.call Try.call22 rfl rfl rfl) (c_laws_eqAct r1102 r115 _ (ownActR.ok (B := 1099511627776) ho105 (fun p_ hp_ => (hs115.own p_ (List.mem_append_right [_, _, _, _, _, _, _, _] (List.mem_append_right _ (List.mem_append_left _ hp_)))).1) (by rw [hd1107]; assumption)) (ownActR.ok (B := 1099511627776) ho18 (fun p_ hp_ => (hs115.own p_ (List.mem_append_right [_, _, _, _, _, _, _, _] (List.mem_append_right _ (List.mem_append_right _ (List.mem_append_right _ (List.mem_append_right _ (List.mem_append_right _ (List.mem_append_right _ (List.mem_append_right _ (List.mem_append_right _ (List.mem_append_left _ hp_))))))))))).1) (by rw [hd120]; assumption)) ?_) ?_
      · first | (first | assumption | rfl | omega) | (first | assumption | omega | (simp only [hd11, hd019, hd120, hd31, hd042, hd143, hd64, hd98, hd0106, hd1107, endAct, endGrid, endScr, endTerm, endVp]; first | done | assumption | omega))
      rintro _ whs118 ⟨rfl, hs118⟩
      replace hs118 := hs115.call0 hs118
      refine ⟨_, rfl, ?_⟩
      refine WL.runA tbk 1 (Acts.nil.cons (j := 4) rfl g116) hs118 [] rfl trivial ?_
      exact WL.eO 4 Acts.nil J117 hs118 g116 rfl rfl
     ·intro _ hs119
      refine WL.nil ?_
      refine WC.condF rfl (by first | (simp; done) | (simp; omega) | (simp [hd11, hd019, hd120, hd31, hd042, hd143, hd64, hd98, hd0106, hd1107]; done) | (simp only [endAct, endGrid, endScr, endTerm, endVp]; simp; omega)) ?_
      refine WC.skip ?_
      refine hK114 _ _ ?_
      refine WC.rr tbk hs119 [] rfl trivial ?_
      refine WC.sr ?_
      refine WL.run tbk 2 hs119 [3] rfl ⟨rfl, trivial⟩ ?_
      refine WL.call rfl rfl rfl (Run.call Try.call25 rfl rfl rfl) (c_laws_heldVp _ _ _ (ownVpR.ok (B := 1099511627776) ho82 (fun p_ hp_ => (hs119.own p_ (List.mem_append_right [_, _, _, _, _, _, _, _] (List.mem_append_right _ (List.mem_append_right _ (List.mem_append_right _ (List.mem_append_right _ (List.mem_append_left _ hp_))))))).1) (markVp_sm (by rw [hd042]; assumption))) ?_ ?_) ?_
      · first | (first | assumption | omega) | (first | assumption | omega | (simp only [hd11, hd019, hd120, hd31, hd042, hd143, hd64, hd98, hd0106, hd1107, endAct, endGrid, endScr, endTerm, endVp]; first | done | assumption | omega))
      · first | (first | assumption | omega | (simp only [endVp]; omega)) | (first | assumption | omega | (simp only [hd11, hd019, hd120, hd31, hd042, hd143, hd64, hd98, hd0106, hd1107, endAct, endGrid, endScr, endTerm, endVp]; first | done | assumption | omega))
      rintro _ whs121 ⟨rfl, hs121⟩
      replace hs121 := hs119.call0 hs121
      refine ⟨_, rfl, ?_⟩
      refine WL.run tbk 1 hs121 [] rfl trivial ?_
      refine WL.nil ?_
      refine WC.seq (fun K122 hK122 => ?_)
      refine WC.rr tbk hs121 [] rfl trivial ?_
      refine WC.condF rfl (by first | (simp; done) | (simp; omega) | (simp [hd11, hd019, hd120, hd31, hd042, hd143, hd64, hd98, hd0106, hd1107]; done) | (simp only [endAct, endGrid, endScr, endTerm, endVp]; simp; omega)) ?_
      refine WC.skip ?_
      refine hK122 _ _ ?_
      refine WC.sr ?_
      refine WL.run tbk 2 hs121 [2] rfl ⟨rfl, trivial⟩ ?_
      refine WL.call rfl rfl rfl (Run.call Try.call26 rfl rfl rfl) (c_laws_heldAct _ _ _ (ownActR.ok (B := 1099511627776) ho85 (fun p_ hp_ => (hs121.own p_ (List.mem_append_right [_, _, _, _, _, _, _, _] (List.mem_append_right _ (List.mem_append_right _ (List.mem_append_right _ (List.mem_append_left _ hp_)))))).1) (markAct_sm (by rw [hd143]; assumption))) ?_ ?_) ?_
      · first | (first | assumption | omega) | (first | assumption | omega | (simp only [hd11, hd019, hd120, hd31, hd042, hd143, hd64, hd98, hd0106, hd1107, endAct, endGrid, endScr, endTerm, endVp]; first | done | assumption | omega))
      · first | (first | assumption | omega | (simp only [endAct]; omega)) | (first | assumption | omega | (simp only [hd11, hd019, hd120, hd31, hd042, hd143, hd64, hd98, hd0106, hd1107, endAct, endGrid, endScr, endTerm, endVp]; first | done | assumption | omega))
      rintro _ whs124 ⟨rfl, hs124⟩
      replace hs124 := hs121.call0 hs124
      refine ⟨_, rfl, ?_⟩
      refine WL.run tbk 1 hs124 [] rfl trivial ?_
      refine WL.nil ?_
      refine WC.seq (fun K125 hK125 => ?_)
      refine WC.rr tbk hs124 [] rfl trivial ?_
      refine WC.condF rfl (by first | (simp; done) | (simp; omega) | (simp [hd11, hd019, hd120, hd31, hd042, hd143, hd64, hd98, hd0106, hd1107]; done) | (simp only [endAct, endGrid, endScr, endTerm, endVp]; simp; omega)) ?_
      refine WC.skip ?_
      refine hK125 _ _ ?_
      refine WC.seq (fun K127 hK127 => ?_)
      refine WC.rr tbk hs124 [] rfl trivial ?_
      refine WC.condF rfl (by first | (simp; done) | (simp; omega) | (simp [hd11, hd019, hd120, hd31, hd042, hd143, hd64, hd98, hd0106, hd1107]; done) | (simp only [endAct, endGrid, endScr, endTerm, endVp]; simp; omega)) ?_
      refine WC.skip ?_
      refine hK127 _ _ ?_
      refine WC.rr tbk hs124 [] rfl trivial ?_
      refine WC.ret ?_
      refine retV1 rfl (resV.tmp rfl) ?_
      refine ⟨congrArg Ending.returned ?_, hs124.nil⟩
      rfl
end Go.Proofs.Ytlmcekfdlgkffaa
