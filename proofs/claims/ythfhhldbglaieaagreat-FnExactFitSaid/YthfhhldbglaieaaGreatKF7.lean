/-
  The statement: for every input the law returns true. No condition. (And what it stands on, the last part.)
-/
import Derived.Test.YthfhhldbglaieaaGreatKF6
namespace Go.Proofs.YthfhhldbglaieaaGreat
open Go Go.RowKit
set_option linter.unusedVariables false
set_option linter.unusedSimpArgs false
set_option maxHeartbeats 8000000 in
theorem k189_ (aS : StateR) (w : World) (f_aS : okStateR 9223372036854775807 w aS) :
    Calls Tryz.prog 8 #[.agg #[i64 aS.W, i64 aS.H, i64 aS.Limit, i64 aS.Next, .slice aS.Panes.A aS.Panes.n aS.Panes.c, .slice aS.Wins.A aS.Wins.n aS.Wins.c, .slice aS.Sess.A aS.Sess.n aS.Sess.c]] w fun e w' => e = .returned (.bool true) ∧ St w [] [] w' := by
 have nb_aS_Panes := f_aS.Panes_n
 have nl_aS_Panes := f_aS.Panes.sl.len
 have nb_aS_Wins := f_aS.Wins_n
 have nl_aS_Wins := f_aS.Wins.sl.len
 have nb_aS_Sess := f_aS.Sess_n
 have nl_aS_Sess := f_aS.Sess.sl.len
 refine enter 69 Tryz.func8 rfl Tryz.ntmps8 rfl rfl ?_
 have hs1 := St.init w
 refine WC.sr (WL.bx hs1 rfl (fun b2 _ hs3 => WL.r 1 hs3 [] rfl (WL.nil (WC.r1 hs3 [] rfl (WC.sr (WL.r 2 hs3 [0] rfl ?_))))))
 refine WL.cl Tryz.call11 rfl (k149_ aS _ _ (okStateR.st0 f_aS hs3) ?_ ?_) ?_
 · first | assumption | omega | (simp only [endState]; first | done | assumption | omega)
 · first | assumption | omega | exact szR_b (by assumption) (by omega) (by first | assumption | omega) | (simp only [endState]; first | done | assumption | omega)
 rintro _ whs4 ⟨rfl, hs4⟩
 replace hs4 := hs3.call0 hs4
 refine ⟨_, rfl, WL.r 1 hs4 [] rfl (WL.nil (WC.seq (fun K5 hK5 => WC.r1 hs4 [] rfl ?_)))⟩
 refine WC.cD rfl (fun qh6 => ?_) (fun qh6 => ?_)
 ·refine WC.r1 hs4 [] rfl (WC.ret (tkR ?_))
  clear hK5
  refine rtv rfl rfl hs4 ?_
  rfl
 simp only [szR] at qh6
 have hb_aS : totState aS.dat ≤ 1048576 := by split at qh6 <;> omega
 have hsm_aS : smState 1048576 aS.dat := totState_sm hb_aS
 have hsB_aS : smState 549755813888 aS.dat := totState_sm (by omega)
 have f_aS := f_aS.to hsB_aS
 have hT := fitD_tot hb_aS
 have hTB : smState 549755813888 (fitD aS.dat) := totState_sm (by omega)
 refine WC.skip (hK5 _ _ (WC.sr (WL.r 1 hs4 [0] rfl (WL.cl Tryz.call13 rfl (k150_ aS _ (okStateR.st0 f_aS hs4)) ?_))))
 rintro _ whs7 ⟨r8, L1_9, rfl, hs7, ho10, hd11⟩
 replace hs7 := hs4.callF hs7
 refine ⟨_, rfl, ?_⟩
 replace hs7 := St.back [_] hs7
 refine WL.cl Tryz.call29 rfl (k156_ r8 _ (ownStateR.ok (B := 549755813888) ho10 (hs7.ow L1_9) (by rw [hd11]; assumption)) ?_) ?_
 · first | assumption | rfl | omega | (simp only [hd11, endState]; first | done | assumption | omega)
 rintro _ whs12 ⟨r13, L1_14, rfl, hs12, ho15, hd16⟩
 try simp only [hd11] at hd16
 replace hs12 := hs7.callF hs12
 refine ⟨_, rfl, ?_⟩
 replace hs12 := St.back [_] hs12
 refine WL.al hs12 Tryz.zeroValue33 rfl rfl (fun b17 _ hs18 => WL.st tbk hs18 0 rfl rfl (fun _ hs19 => WL.nil (WC.sr (WL.r 1 hs19 [1] rfl (WL.cl Tryz.call13 rfl (k150_ aS _ (okStateR.st0 f_aS hs19)) ?_)))))
 rintro _ whs20 ⟨r21, L1_22, rfl, hs20, ho23, hd24⟩
 try simp only [hd11, hd16] at hd24
 replace hs20 := hs19.callF hs20
 refine ⟨_, rfl, ?_⟩
 replace hs20 := St.back [_, _] hs20
 have el0 := endState_le 1 r21
 rw [hd24] at el0
 have eg0 := endState_ge 1 r21
 have eb0 : endState 1 r21 ≤ 549755813888 := by omega
 have en0_Panes : r21.Panes.xs.length ≤ 549755813888 := by have h1 := tots_len totPane (r21.Panes.xs.map PaneR.dat); rw [List.length_map] at h1; have h2 : totState r21.dat ≤ 1048576 := (by rw [hd24]; exact hb_aS); simp only [StateR.dat, totState] at h2; omega
 have en0_Wins : r21.Wins.xs.length ≤ 549755813888 := by have h1 := tots_len totWin (r21.Wins.xs.map WinR.dat); rw [List.length_map] at h1; have h2 : totState r21.dat ≤ 1048576 := (by rw [hd24]; exact hb_aS); simp only [StateR.dat, totState] at h2; omega
 have en0_Sess : r21.Sess.xs.length ≤ 549755813888 := by have h1 := tots_len totSess (r21.Sess.xs.map SessR.dat); rw [List.length_map] at h1; have h2 : totState r21.dat ≤ 1048576 := (by rw [hd24]; exact hb_aS); simp only [StateR.dat, totState] at h2; omega
 have ee0_Panes_Term_S_Back : ∀ x, x ∈ r21.Panes.xs → x.Term.S.Back.xs.length ≤ 549755813888 := by
   intro x hx
   have h1 := tots_mem (f := totPane) (List.mem_map_of_mem (f := PaneR.dat) hx)
   have h2 : totState r21.dat ≤ 1048576 := (by rw [hd24]; exact hb_aS)
   simp only [StateR.dat, totState] at h2
   have h3 := tots_len totRow (x.Term.S.Back.xs.map RowR.dat)
   rw [List.length_map] at h3
   simp only [GridR.dat, PaneR.dat, ScrR.dat, TermR.dat, VpR.dat, totGrid, totPane, totScr, totTerm, totVp] at h1
   omega
 refine WL.al hs20 Tryz.zeroValue33 rfl rfl (fun b25 _ hs26 => WL.st tbk hs26 0 rfl rfl (fun _ hs27 => WL.nil (WC.sr (WL.r 1 hs27 [0] rfl ?_))))
 refine WL.cl Tryz.call30 rfl (k151_ r21 _ (ownStateR.ok (B := 549755813888) ho23 (hs27.ow L1_22) (by rw [hd24]; assumption)) ?_) ?_
 · first | assumption | rfl | omega | (simp only [hd11, hd16, hd24, endState]; first | done | assumption | omega)
 rintro _ whs28 ⟨r29, L1_30, rfl, hs28, ho31, hd32⟩
 try simp only [hd11, hd16, hd24] at hd32
 replace hs28 := hs27.callF hs28
 refine ⟨_, rfl, ?_⟩
 replace hs28 := St.back [_, _, _] hs28
 have el1 := endState_le 1 r29
 rw [hd32] at el1
 have eg1 := endState_ge 1 r29
 have eb1 : endState 1 r29 ≤ 549755813888 := by omega
 have en1_Panes : r29.Panes.xs.length ≤ 549755813888 := by have h1 := tots_len totPane (r29.Panes.xs.map PaneR.dat); rw [List.length_map] at h1; have h2 : totState r29.dat ≤ 7071946069 := (by rw [hd32]; exact hT); simp only [StateR.dat, totState] at h2; omega
 have en1_Wins : r29.Wins.xs.length ≤ 549755813888 := by have h1 := tots_len totWin (r29.Wins.xs.map WinR.dat); rw [List.length_map] at h1; have h2 : totState r29.dat ≤ 7071946069 := (by rw [hd32]; exact hT); simp only [StateR.dat, totState] at h2; omega
 have en1_Sess : r29.Sess.xs.length ≤ 549755813888 := by have h1 := tots_len totSess (r29.Sess.xs.map SessR.dat); rw [List.length_map] at h1; have h2 : totState r29.dat ≤ 7071946069 := (by rw [hd32]; exact hT); simp only [StateR.dat, totState] at h2; omega
 have ee1_Panes_Term_S_Back : ∀ x, x ∈ r29.Panes.xs → x.Term.S.Back.xs.length ≤ 549755813888 := by
   intro x hx
   have h1 := tots_mem (f := totPane) (List.mem_map_of_mem (f := PaneR.dat) hx)
   have h2 : totState r29.dat ≤ 7071946069 := (by rw [hd32]; exact hT)
   simp only [StateR.dat, totState] at h2
   have h3 := tots_len totRow (x.Term.S.Back.xs.map RowR.dat)
   rw [List.length_map] at h3
   simp only [GridR.dat, PaneR.dat, ScrR.dat, TermR.dat, VpR.dat, totGrid, totPane, totScr, totTerm, totVp] at h1
   omega
 refine WL.al hs28 Tryz.zeroValue33 rfl rfl (fun b33 _ hs34 => WL.st tbk hs34 0 rfl rfl (fun _ hs35 => WL.nil (WC.seq (fun K36 hK36 => WC.sr (WL.r 2 hs35 [0, 2] rfl ?_)))))
 refine WL.cl Tryz.call15 rfl (k169_ r29 r13 _ (ownStateR.ok (B := 549755813888) ho31 (hs35.ow L1_30) (by rw [hd32]; assumption)) (ownStateR.ok (B := 549755813888) ho15 (hs35.ow L1_14) (by rw [hd16]; assumption)) ?_) ?_
 · first | assumption | rfl | omega | (simp only [hd11, hd16, hd24, hd32, endState]; first | done | assumption | omega)
 rintro _ whs37 ⟨rfl, hs37⟩
 replace hs37 := hs35.call0 hs37
 refine ⟨_, rfl, WL.r 1 hs37 [] rfl (WL.nil ?_)⟩
 refine WC.condF rfl (by first | (simp; done) | (simp; omega) | (simp [hd11, hd16, hd24, hd32]; done) | (simp [hd11, hd16, hd24, hd32]; omega) | (simp only [endState]; simp; omega)) (WC.skip (hK36 _ _ (WC.seq (fun K39 hK39 => WC.seq (fun K40 hK40 => WC.rH hs37 hs37 (fun _ hs41 => ?_))))))
 refine WH.rn [0, 1] hs41 [1, 3] rfl rfl (WH.o1 2 rfl (WL.cl Tryz.call13 rfl (k150_ aS _ (okStateR.st0 f_aS hs41)) ?_))
 rintro _ whs42 ⟨r43, L1_44, rfl, hs42, ho45, hd46⟩
 try simp only [hd11, hd16, hd24, hd32] at hd46
 replace hs42 := hs41.callF hs42
 refine ⟨_, rfl, ?_⟩
 replace hs42 := St.back [_, _, _, _] hs42
 refine WL.nil ⟨(hs42.rm L1_44), WH.o1 3 rfl ?_⟩
 refine WL.cl Tryz.call15 rfl (k169_ r21 r43 _ (ownStateR.ok (B := 549755813888) ho23 (hs42.ow L1_22) (by rw [hd24]; assumption)) (ownStateR.ok (B := 549755813888) ho45 (hs42.ow L1_44) (by rw [hd46]; assumption)) ?_) ?_
 · first | assumption | rfl | omega | (simp only [hd11, hd16, hd24, hd32, hd46, endState]; first | done | assumption | omega)
 rintro _ whs47 ⟨rfl, hs47⟩
 replace hs47 := hs42.call0 hs47
 refine ⟨_, rfl, WL.nil ⟨(hs47.rm L1_44), WH.rn [4] (hs47.rm L1_44) [] rfl rfl (WH.dn (hK40 _ _ ?_))⟩⟩
 refine WC.condF rfl (by first | (simp; done) | (simp; omega) | (simp [hd11, hd16, hd24, hd32, hd46]; done) | (simp [hd11, hd16, hd24, hd32, hd46]; omega) | (simp only [endState]; simp; omega)) (WC.skip (hK39 _ _ (WC.r1 hs47 [] rfl (WC.sr (WL.r 2 hs47 [1] rfl ?_)))))
 refine WL.cl Tryz.call22 rfl (k187_ r21 _ _ _ ho23 (hs47.ow L1_22) (St.nodupL (hs47.fr L1_22)) ?_ ?_ ?_ ?_ ?_ ?_) ?_
 · first | assumption | omega | (simp only [hd11, hd16, hd24, hd32, hd46, endState]; first | done | assumption | omega)
 · first | assumption | omega | (simp only [endState]; omega) | (simp only [hd11, hd16, hd24, hd32, hd46, endState]; first | done | assumption | omega)
 iterate 4 focus first | assumption | omega | (simp only [hd11, hd16, hd24, hd32, hd46, endState]; first | done | assumption | omega)
 rintro _ whs49 ⟨L1_50, rfl, hs49, ho51⟩
 replace hs49 := St.lend (hs47.fr L1_22) hs49
 refine ⟨_, rfl, ?_⟩
 replace hs49 := St.back [_, _, _, _] hs49
 refine WL.r 1 hs49 [] rfl (WL.nil (WC.seq (fun K52 hK52 => WC.sr (WL.r 3 hs49 [] rfl ?_))))
 apply WL.gO 4 Acts.nil hs49 rfl
 ·intro g53 J54
  have qg53 := g53
  try simp only [bf, within_iff, within_not] at qg53
  refine WL.runA tbk 2 (Acts.nil.cons (j := 2) rfl g53) hs49 [0, 2] rfl ⟨rfl, rfl, trivial⟩ ?_
  refine WL.call (wantF rfl g53) rfl rfl (Run.call Tryz.call15 rfl rfl rfl) (k169_ r29 r13 _ (ownStateR.ok (B := 549755813888) ho31 (hs49.ow L1_30) (by rw [hd32]; assumption)) (ownStateR.ok (B := 549755813888) ho15 (hs49.ow L1_14) (by rw [hd16]; assumption)) ?_) ?_
  · first | assumption | rfl | omega | (simp only [hd11, hd16, hd24, hd32, hd46, endState]; first | done | assumption | omega)
  rintro _ whs55 ⟨rfl, hs55⟩
  replace hs55 := hs49.call0 hs55
  refine ⟨_, rfl, WL.runA tbk 1 (Acts.nil.cons (j := 2) rfl g53) hs55 [] rfl trivial (WL.eO 4 Acts.nil J54 hs55 g53 rfl rfl)⟩
 intro _ hs56
 refine WL.nil ?_
 refine WC.condF rfl (by first | (simp; done) | (simp; omega) | (simp [hd11, hd16, hd24, hd32, hd46]; done) | (simp [hd11, hd16, hd24, hd32, hd46]; omega) | (simp only [endState]; simp; omega)) (WC.skip (hK52 _ _ (WC.r1 hs56 [] rfl (WC.sr (WL.r 2 hs56 [0] rfl ?_)))))
 refine WL.cl Tryz.call22 rfl (k187_ r29 _ _ _ ho31 (hs56.ow L1_30) (St.nodupL (hs56.fr L1_30)) ?_ ?_ ?_ ?_ ?_ ?_) ?_
 · first | assumption | omega | (simp only [hd11, hd16, hd24, hd32, hd46, endState]; first | done | assumption | omega)
 · first | assumption | omega | (simp only [endState]; omega) | (simp only [hd11, hd16, hd24, hd32, hd46, endState]; first | done | assumption | omega)
 iterate 4 focus first | assumption | omega | (simp only [hd11, hd16, hd24, hd32, hd46, endState]; first | done | assumption | omega)
 rintro _ whs58 ⟨L1_59, rfl, hs58, ho60⟩
 replace hs58 := St.lend (hs56.fr L1_30) hs58
 refine ⟨_, rfl, ?_⟩
 replace hs58 := St.back [_, _, _, _] hs58
 refine WL.r 1 hs58 [] rfl (WL.nil (WC.r1 hs58 [] rfl (WC.sr (WL.r 2 hs58 [0] rfl ?_))))
 refine WL.cl Tryz.call23 rfl (k188_ _ _ _ (ownStateR.ok (B := 549755813888) ho60 (hs58.ow L1_59) (markState_sm (by rw [hd32]; assumption))) ?_ ?_) ?_
 · first | assumption | omega | (simp only [hd11, hd16, hd24, hd32, hd46, endState]; first | done | assumption | omega)
 · first | assumption | omega | (simp only [endState]; omega) | (simp only [hd11, hd16, hd24, hd32, hd46, endState]; first | done | assumption | omega)
 rintro _ whs61 ⟨rfl, hs61⟩
 replace hs61 := hs58.call0 hs61
 refine ⟨_, rfl, WL.r 1 hs61 [] rfl (WL.nil (WC.seq (fun K62 hK62 => WC.r1 hs61 [] rfl ?_)))⟩
 refine WC.condF rfl (by first | (simp; done) | (simp; omega) | (simp [hd11, hd16, hd24, hd32, hd46]; done) | (simp [hd11, hd16, hd24, hd32, hd46]; omega) | (simp only [endState]; simp; omega)) (WC.skip (hK62 _ _ (WC.seq (fun K64 hK64 => WC.r1 hs61 [] rfl ?_))))
 refine WC.condF rfl (by first | (simp; done) | (simp; omega) | (simp [hd11, hd16, hd24, hd32, hd46]; done) | (simp [hd11, hd16, hd24, hd32, hd46]; omega) | (simp only [endState]; simp; omega)) (WC.skip (hK64 _ _ (WC.sr (WL.r 1 hs61 [3] rfl (WL.cl Tryz.call13 rfl (k150_ aS _ (okStateR.st0 f_aS hs61)) ?_)))))
 rintro _ whs66 ⟨r67, L1_68, rfl, hs66, ho69, hd70⟩
 try simp only [hd11, hd16, hd24, hd32, hd46] at hd70
 replace hs66 := hs61.callF hs66
 refine ⟨_, rfl, ?_⟩
 replace hs66 := St.back [_, _, _, _] hs66
 refine WL.cl Tryz.call30 rfl (k151_ r67 _ (ownStateR.ok (B := 549755813888) ho69 (hs66.ow L1_68) (by rw [hd70]; assumption)) ?_) ?_
 · first | assumption | rfl | omega | (simp only [hd11, hd16, hd24, hd32, hd46, hd70, endState]; first | done | assumption | omega)
 rintro _ whs71 ⟨r72, L1_73, rfl, hs71, ho74, hd75⟩
 try simp only [hd11, hd16, hd24, hd32, hd46, hd70] at hd75
 replace hs71 := hs66.callF hs71
 refine ⟨_, rfl, ?_⟩
 replace hs71 := St.back [_, _, _, _] hs71
 refine WL.al hs71 Tryz.zeroValue33 rfl rfl (fun b76 _ hs77 => WL.st tbk hs77 0 rfl rfl (fun _ hs78 => WL.nil (WC.seq (fun K79 hK79 => WC.sr (WL.r 2 hs78 [0, 3] rfl ?_)))))
 refine WL.cl Tryz.call15 rfl (k169_ r72 r13 _ (ownStateR.ok (B := 549755813888) ho74 (hs78.ow L1_73) (by rw [hd75]; assumption)) (ownStateR.ok (B := 549755813888) ho15 (hs78.ow L1_14) (by rw [hd16]; assumption)) ?_) ?_
 · first | assumption | rfl | omega | (simp only [hd11, hd16, hd24, hd32, hd46, hd70, hd75, endState]; first | done | assumption | omega)
 rintro _ whs80 ⟨rfl, hs80⟩
 replace hs80 := hs78.call0 hs80
 refine ⟨_, rfl, WL.r 1 hs80 [] rfl (WL.nil ?_)⟩
 refine WC.condF rfl (by first | (simp; done) | (simp; omega) | (simp [hd11, hd16, hd24, hd32, hd46, hd70, hd75]; done) | (simp [hd11, hd16, hd24, hd32, hd46, hd70, hd75]; omega) | (simp only [endState]; simp; omega)) (WC.skip (hK79 _ _ (WC.r1 hs80 [] rfl (WC.sr (WL.r 2 hs80 [1] rfl ?_)))))
 refine WL.cl Tryz.call23 rfl (k188_ _ _ _ (ownStateR.ok (B := 549755813888) ho60 (hs80.ow L1_59) (markState_sm (by rw [hd32]; assumption))) ?_ ?_) ?_
 · first | assumption | omega | (simp only [hd11, hd16, hd24, hd32, hd46, hd70, hd75, endState]; first | done | assumption | omega)
 · first | assumption | omega | (simp only [endState]; omega) | (simp only [hd11, hd16, hd24, hd32, hd46, hd70, hd75, endState]; first | done | assumption | omega)
 rintro _ whs82 ⟨rfl, hs82⟩
 replace hs82 := hs80.call0 hs82
 refine ⟨_, rfl, WL.r 1 hs82 [] rfl (WL.nil (WC.seq (fun K83 hK83 => WC.r1 hs82 [] rfl ?_)))⟩
 refine WC.condF rfl (by first | (simp; done) | (simp; omega) | (simp [hd11, hd16, hd24, hd32, hd46, hd70, hd75]; done) | (simp [hd11, hd16, hd24, hd32, hd46, hd70, hd75]; omega) | (simp only [endState]; simp; omega)) (WC.skip (hK83 _ _ (WC.seq (fun K85 hK85 => WC.r1 hs82 [] rfl ?_))))
 refine WC.condF rfl (by first | (simp; done) | (simp; omega) | (simp [hd11, hd16, hd24, hd32, hd46, hd70, hd75]; done) | (simp [hd11, hd16, hd24, hd32, hd46, hd70, hd75]; omega) | (simp only [endState]; simp; omega)) (WC.skip (hK85 _ _ (WC.r1 hs82 [] rfl (WC.ret (rtv rfl rfl hs82 ?_)))))
 rfl
open Go Go.RowKit Go.ChangeShapes Go.WideShapes Go.ChangeAt Go.Deep
theorem list_succ {n : Nat} {l : List Value} (h : l.length = n + 1) : ∃ c r, l = c :: r ∧ r.length = n := by
 cases l with
 | nil => simp at h
 | cons c r => exact ⟨c, r, rfl, by simpa using h⟩
theorem list_zero {l : List Value} (h : l.length = 0) : l = [] := List.eq_nil_of_length_eq_zero h
section
variable {H : Type} {enc : TypeId × Value → H} {P : Program} {w : World} {base : Nat} {spare : Nat → Bool} {held : Bool} {fuel : Nat} {t e : TypeId} {cs : List Value} {x : DataW H × List MemPlace}
theorem trod_flds {fs : Array Field} (ht : P.underlying t = some (.struct fs)) (h : DataW.trod enc P w base spare held fuel t cs = some x) :
  cs.length = P.cellsOf t ∧ ∃ n, ∀ (i : Nat) (f : Field), fs.toList[i]? = some f → ∃ y, DataW.trod enc P w base spare held n f.type ((cs.drop f.offset).take (P.cellsOf f.type)) = some y := by
 obtain ⟨xs, n, _, _, hl, hlen, hg⟩ := DataW.trod_struct ht h
 refine ⟨hl, n, fun i f hf => ?_⟩
 have hf' : fs[i]? = some f := by simpa using hf
 have hi : i < xs.length := by rw [hlen]; exact (Array.getElem?_eq_some_iff.1 hf').1
 exact ⟨xs[i], (hg i f hf').trans (List.getElem?_eq_getElem hi)⟩
theorem open_i64 (ht : P.underlying t = some (.int .i64)) (h : DataW.trod enc P w base spare held fuel t cs = some x) : ∃ n, cs = [i64 n] ∧ In64 n := by
 obtain ⟨n, rfl, _, hw⟩ := DataW.trod_int ht h
 refine ⟨n, rfl, ?_⟩
 simp [Lit.wf, IntKind.min, IntKind.max, IntKind.signed, IntKind.bits] at hw
 exact hw
theorem open_str (ht : P.underlying t = some .string) (h : DataW.trod enc P w base spare held fuel t cs = some x) : ∃ s, cs = [.string s] ∧ s.size ≤ 9223372036854775807 := by
 obtain ⟨s, rfl, _, hw⟩ := DataW.trod_string ht h
 exact ⟨s, rfl, by simpa [maxLen] using hw⟩
theorem open_bool' (ht : P.underlying t = some .bool) (h : DataW.trod enc P w base spare held fuel t cs = some x) : ∃ b, cs = [.bool b] := by
 obtain ⟨b, rfl, _⟩ := DataW.trod_bool ht h
 exact ⟨b, rfl⟩
theorem open_SlF {α : Type} {F : Enc α} {good : α → Prop} (ht : P.underlying t = some (.slice e)) (hc : P.cellsOf e = F.sz)
  (hE : ∀ n cs' y, DataW.trod enc P w base spare held n e cs' = some y → ∃ d, cs' = F.enc d ∧ good d) (h : DataW.trod enc P w base spare held fuel t cs = some x) :
  ∃ A n c xs, cs = [.slice A n c] ∧ SlF F w A n xs ∧ n ≤ 9223372036854775807 ∧ ∀ d, d ∈ xs → good d := by
 rcases open_slice ht h with ⟨rfl, _⟩ | ⟨a, l, c, m, n, D, Pl, rfl, _, hl, hm, hmm, _, hx⟩
 ·exact ⟨none, 0, 0, [], rfl, ⟨rfl, SlR.nil _ _ _⟩, by omega, fun z h => by cases h⟩
 ·have hlm : l ≤ m := by rw [hmm]; split <;> omega
  have : Inhabited α := ⟨F.dflt⟩
  have each : ∀ i, i < l → ∃ d : α, good d ∧ ∀ r, r < F.sz → w.cell? (a.add (i * F.sz + r)) = (F.enc d)[r]? := by
   intro i hi
   obtain ⟨cs', h1, h2⟩ := hx i (by omega)
   obtain ⟨d, rfl, hg⟩ := hE _ _ _ h2
   obtain ⟨_, _, h3⟩ := World.cells?_some h1
   refine ⟨d, hg, fun r hr => ?_⟩
   have := h3 r (by rw [hc]; exact hr)
   rw [← this, hc]
   congr 1
   rw [Addr.add_add']
  obtain ⟨d, hd⟩ := choose_lt each
  have hlen : ((List.range l).map d).length = l := by simp
  refine ⟨some a, l, c, (List.range l).map d, rfl, ⟨hlen, ⟨by rw [rows_len, hlen], fun _ => rfl, fun j v hv => ?_⟩⟩, by simp only [maxLen] at hm; omega, fun z hz => ?_⟩
  ·have hj := (List.getElem?_eq_some_iff.1 hv).1
   rw [rows_len, hlen] at hj
   have hp := F.pos
   have hi : j / F.sz < l := Nat.div_lt_of_lt_mul (by rw [Nat.mul_comm]; exact hj)
   have hr : j % F.sz < F.sz := Nat.mod_lt _ hp
   have ej : j / F.sz * F.sz + j % F.sz = j := by rw [Nat.mul_comm]; exact Nat.div_add_mod _ _
   have e1 := (hd (j / F.sz) hi).2 (j % F.sz) hr
   rw [ej] at e1
   show w.cell? (a.add j) = some v
   rw [e1, ← hv]
   have e2 := rows_get (F := F) (xs := (List.range l).map d) (k := j / F.sz) (by rw [hlen]; exact hi) hr
   rw [ej] at e2
   rw [e2]
   have e3 : gat F ((List.range l).map d) (j / F.sz) = d (j / F.sz) := by
    have := gat_get (F := F) (xs := (List.range l).map d) (k := j / F.sz) (by rw [hlen]; exact hi)
    rw [List.getElem?_map, List.getElem?_range hi] at this
    exact (Option.some.inj this).symm
   rw [e3]
  ·obtain ⟨i, hi, rfl⟩ := List.mem_map.1 hz
   exact (hd i (by simpa using hi)).1
theorem open_u8 (ht : P.underlying t = some (.int .u8)) (h : DataW.trod enc P w base spare held fuel t cs = some x) : ∃ b : UInt8, cs = encB.enc b ∧ True := by
 obtain ⟨n, rfl, _, hw⟩ := DataW.trod_int ht h
 simp [Lit.wf, IntKind.min, IntKind.max, IntKind.signed, IntKind.bits] at hw
 refine ⟨UInt8.ofNat n.toNat, ?_, trivial⟩
 show [Value.int .u8 n] = [Value.int .u8 (UInt8.ofNat n.toNat).toNat]
 congr 2
 rw [UInt8.toNat_ofNat']
 omega
theorem open_e64 (ht : P.underlying t = some (.int .i64)) (h : DataW.trod enc P w base spare held fuel t cs = some x) : ∃ n : Int, cs = encI.enc n ∧ In64 n := open_i64 ht h
theorem open_SlE {α : Type} {F : Enc α} {good : α → Prop} (ht : P.underlying t = some (.slice e)) (hc : P.cellsOf e = F.sz)
  (hE : ∀ n cs' y, DataW.trod enc P w base spare held n e cs' = some y → ∃ d, cs' = F.enc d ∧ good d) (h : DataW.trod enc P w base spare held fuel t cs = some x) :
  ∃ A n c xs, cs = [.slice A n c] ∧ SlF F w A n xs ∧ n ≤ c ∧ n ≤ 9223372036854775807 ∧ ∀ d, d ∈ xs → good d := by
 obtain ⟨A, n, c, xs, e1, f, hn, hg⟩ := open_SlF ht hc hE h
 refine ⟨A, n, c, xs, e1, f, ?_, hn, hg⟩
 rcases open_slice ht h with ⟨e2, _⟩ | ⟨a, l, c', m, n', D, Pl, e2, _, hl, _⟩
 ·rw [e1] at e2
  cases e2
  exact Nat.le_refl _
 ·rw [e1] at e2
  cases e2
  exact hl
end
theorem cells_3 : Tryz.prog.cellsOf 3 = 1 := by kernel_rfl
theorem cells_4 : Tryz.prog.cellsOf 4 = 1 := by kernel_rfl
theorem cells_5 : Tryz.prog.cellsOf 5 = 1 := by kernel_rfl
theorem cells_44 : Tryz.prog.cellsOf 44 = 1 := by kernel_rfl
theorem cells_60 : Tryz.prog.cellsOf 60 = 1 := by kernel_rfl
theorem cells_132 : Tryz.prog.cellsOf 132 = 4 := by kernel_rfl
theorem open_VpR {H : Type} {enc : TypeId × Value → H} {w : World} {base : Nat} {spare : Nat → Bool} {held : Bool} {fuel : Nat} {cs : List Value} {x : DataW H × List MemPlace} (h : DataW.trod enc Tryz.prog w base spare held fuel 132 cs = some x) : ∃ d, cs = encVpR.enc d ∧ okVpR 9223372036854775807 w d := by
  obtain ⟨hl, n, hg⟩ := trod_flds Tryz.underlying132 h
  rw [cells_132] at hl
  obtain ⟨c0, l0, rfl, z0⟩ := list_succ hl
  obtain ⟨c1, l1, rfl, z1⟩ := list_succ z0
  obtain ⟨c2, l2, rfl, z2⟩ := list_succ z1
  obtain ⟨c3, l3, rfl, z3⟩ := list_succ z2
  obtain rfl := list_zero z3
  obtain ⟨y0, g0⟩ := hg 0 _ rfl
  rw [show Tryz.prog.cellsOf _ = 1 from cells_3] at g0
  replace g0 : DataW.trod _ _ _ _ _ _ _ 3 [c0] = _ := g0
  obtain ⟨x0, e0, w0⟩ := open_i64 Tryz.underlying3 g0
  obtain ⟨y1, g1⟩ := hg 1 _ rfl
  rw [show Tryz.prog.cellsOf _ = 1 from cells_4] at g1
  replace g1 : DataW.trod _ _ _ _ _ _ _ 4 [c1] = _ := g1
  obtain ⟨x1, e1⟩ := open_bool' Tryz.underlying4 g1
  obtain ⟨y2, g2⟩ := hg 2 _ rfl
  rw [show Tryz.prog.cellsOf _ = 1 from cells_60] at g2
  replace g2 : DataW.trod _ _ _ _ _ _ _ 60 [c2] = _ := g2
  obtain ⟨A2, n2, k2, x2, e2, f2, hc2, hn2, hg2⟩ := open_SlE (F := encI) (good := fun n => In64 n) Tryz.underlying60 cells_3 (fun _ _ _ h_ => open_e64 Tryz.underlying3 h_) g2
  obtain ⟨y3, g3⟩ := hg 3 _ rfl
  rw [show Tryz.prog.cellsOf _ = 1 from cells_44] at g3
  replace g3 : DataW.trod _ _ _ _ _ _ _ 44 [c3] = _ := g3
  obtain ⟨A3, n3, k3, x3, e3, f3, hc3, hn3, hg3⟩ := open_SlE (F := encB) (good := fun _ => True) Tryz.underlying44 cells_5 (fun _ _ _ h_ => open_u8 Tryz.underlying5 h_) g3
  cases e0
  cases e1
  cases e2
  cases e3
  exact ⟨⟨x0, x1, ⟨A2, n2, k2, x2⟩, ⟨A3, n3, k3, x3⟩⟩, rfl, ⟨f2, hc2, hn2, f3, hc3, hn3⟩⟩
theorem cells_136 : Tryz.prog.cellsOf 136 = 5 := by kernel_rfl
def goodAttr (d : AttrD) : Prop := In64 d.Fg ∧ In64 d.Bg
theorem open_Attr {H : Type} {enc : TypeId × Value → H} {w : World} {base : Nat} {spare : Nat → Bool} {held : Bool} {fuel : Nat} {cs : List Value} {x : DataW H × List MemPlace} (h : DataW.trod enc Tryz.prog w base spare held fuel 136 cs = some x) : ∃ d, cs = encAttr.enc d ∧ goodAttr d := by
  obtain ⟨hl, n, hg⟩ := trod_flds Tryz.underlying136 h
  rw [cells_136] at hl
  obtain ⟨c0, l0, rfl, z0⟩ := list_succ hl
  obtain ⟨c1, l1, rfl, z1⟩ := list_succ z0
  obtain ⟨c2, l2, rfl, z2⟩ := list_succ z1
  obtain ⟨c3, l3, rfl, z3⟩ := list_succ z2
  obtain ⟨c4, l4, rfl, z4⟩ := list_succ z3
  obtain rfl := list_zero z4
  obtain ⟨y0, g0⟩ := hg 0 _ rfl
  rw [show Tryz.prog.cellsOf _ = 1 from cells_3] at g0
  replace g0 : DataW.trod _ _ _ _ _ _ _ 3 [c0] = _ := g0
  obtain ⟨x0, e0, w0⟩ := open_i64 Tryz.underlying3 g0
  obtain ⟨y1, g1⟩ := hg 1 _ rfl
  rw [show Tryz.prog.cellsOf _ = 1 from cells_3] at g1
  replace g1 : DataW.trod _ _ _ _ _ _ _ 3 [c1] = _ := g1
  obtain ⟨x1, e1, w1⟩ := open_i64 Tryz.underlying3 g1
  obtain ⟨y2, g2⟩ := hg 2 _ rfl
  rw [show Tryz.prog.cellsOf _ = 1 from cells_4] at g2
  replace g2 : DataW.trod _ _ _ _ _ _ _ 4 [c2] = _ := g2
  obtain ⟨x2, e2⟩ := open_bool' Tryz.underlying4 g2
  obtain ⟨y3, g3⟩ := hg 3 _ rfl
  rw [show Tryz.prog.cellsOf _ = 1 from cells_4] at g3
  replace g3 : DataW.trod _ _ _ _ _ _ _ 4 [c3] = _ := g3
  obtain ⟨x3, e3⟩ := open_bool' Tryz.underlying4 g3
  obtain ⟨y4, g4⟩ := hg 4 _ rfl
  rw [show Tryz.prog.cellsOf _ = 1 from cells_4] at g4
  replace g4 : DataW.trod _ _ _ _ _ _ _ 4 [c4] = _ := g4
  obtain ⟨x4, e4⟩ := open_bool' Tryz.underlying4 g4
  cases e0
  cases e1
  cases e2
  cases e3
  cases e4
  exact ⟨⟨x0, x1, x2, x3, x4⟩, rfl, ⟨w0, w1⟩⟩
theorem cells_308 : Tryz.prog.cellsOf 308 = 6 := by kernel_rfl
def goodCell (d : CellD) : Prop := In64 d.R ∧ goodAttr d.A
theorem open_Cell {H : Type} {enc : TypeId × Value → H} {w : World} {base : Nat} {spare : Nat → Bool} {held : Bool} {fuel : Nat} {cs : List Value} {x : DataW H × List MemPlace} (h : DataW.trod enc Tryz.prog w base spare held fuel 308 cs = some x) : ∃ d, cs = encCell.enc d ∧ goodCell d := by
  obtain ⟨hl, n, hg⟩ := trod_flds Tryz.underlying308 h
  rw [cells_308] at hl
  obtain ⟨c0, l0, rfl, z0⟩ := list_succ hl
  obtain ⟨c1, l1, rfl, z1⟩ := list_succ z0
  obtain ⟨c2, l2, rfl, z2⟩ := list_succ z1
  obtain ⟨c3, l3, rfl, z3⟩ := list_succ z2
  obtain ⟨c4, l4, rfl, z4⟩ := list_succ z3
  obtain ⟨c5, l5, rfl, z5⟩ := list_succ z4
  obtain rfl := list_zero z5
  obtain ⟨y0, g0⟩ := hg 0 _ rfl
  rw [show Tryz.prog.cellsOf _ = 1 from cells_3] at g0
  replace g0 : DataW.trod _ _ _ _ _ _ _ 3 [c0] = _ := g0
  obtain ⟨x0, e0, w0⟩ := open_i64 Tryz.underlying3 g0
  obtain ⟨y1, g1⟩ := hg 1 _ rfl
  rw [show Tryz.prog.cellsOf _ = 5 from cells_136] at g1
  replace g1 : DataW.trod _ _ _ _ _ _ _ 136 [c1, c2, c3, c4, c5] = _ := g1
  obtain ⟨x1, e1, w1⟩ := open_Attr g1
  replace e1 : [c1, c2, c3, c4, c5] = [i64 x1.Fg, i64 x1.Bg, .bool x1.Bold, .bool x1.Under, .bool x1.Turn] := e1
  cases e0
  cases e1
  exact ⟨⟨x0, x1⟩, rfl, ⟨w0, w1⟩⟩
theorem cells_133 : Tryz.prog.cellsOf 133 = 1 := by kernel_rfl
theorem cells_135 : Tryz.prog.cellsOf 135 = 3 := by kernel_rfl
theorem open_GridR {H : Type} {enc : TypeId × Value → H} {w : World} {base : Nat} {spare : Nat → Bool} {held : Bool} {fuel : Nat} {cs : List Value} {x : DataW H × List MemPlace} (h : DataW.trod enc Tryz.prog w base spare held fuel 135 cs = some x) : ∃ d, cs = encGridR.enc d ∧ okGridR 9223372036854775807 w d := by
  obtain ⟨hl, n, hg⟩ := trod_flds Tryz.underlying135 h
  rw [cells_135] at hl
  obtain ⟨c0, l0, rfl, z0⟩ := list_succ hl
  obtain ⟨c1, l1, rfl, z1⟩ := list_succ z0
  obtain ⟨c2, l2, rfl, z2⟩ := list_succ z1
  obtain rfl := list_zero z2
  obtain ⟨y0, g0⟩ := hg 0 _ rfl
  rw [show Tryz.prog.cellsOf _ = 1 from cells_3] at g0
  replace g0 : DataW.trod _ _ _ _ _ _ _ 3 [c0] = _ := g0
  obtain ⟨x0, e0, w0⟩ := open_i64 Tryz.underlying3 g0
  obtain ⟨y1, g1⟩ := hg 1 _ rfl
  rw [show Tryz.prog.cellsOf _ = 1 from cells_3] at g1
  replace g1 : DataW.trod _ _ _ _ _ _ _ 3 [c1] = _ := g1
  obtain ⟨x1, e1, w1⟩ := open_i64 Tryz.underlying3 g1
  obtain ⟨y2, g2⟩ := hg 2 _ rfl
  rw [show Tryz.prog.cellsOf _ = 1 from cells_133] at g2
  replace g2 : DataW.trod _ _ _ _ _ _ _ 133 [c2] = _ := g2
  obtain ⟨A2, n2, k2, x2, e2, f2, hc2, hn2, hg2⟩ := open_SlE (F := encCell) (good := goodCell) Tryz.underlying133 cells_308 (fun _ _ _ h_ => open_Cell h_) g2
  cases e0
  cases e1
  cases e2
  exact ⟨⟨x0, x1, ⟨A2, n2, k2, x2⟩⟩, rfl, ⟨f2, hc2, hn2⟩⟩
theorem cells_285 : Tryz.prog.cellsOf 285 = 1 := by kernel_rfl
theorem open_RowR {H : Type} {enc : TypeId × Value → H} {w : World} {base : Nat} {spare : Nat → Bool} {held : Bool} {fuel : Nat} {cs : List Value} {x : DataW H × List MemPlace} (h : DataW.trod enc Tryz.prog w base spare held fuel 285 cs = some x) : ∃ d, cs = encRowR.enc d ∧ okRowR 9223372036854775807 w d := by
  obtain ⟨hl, n, hg⟩ := trod_flds Tryz.underlying285 h
  rw [cells_285] at hl
  obtain ⟨c0, l0, rfl, z0⟩ := list_succ hl
  obtain rfl := list_zero z0
  obtain ⟨y0, g0⟩ := hg 0 _ rfl
  rw [show Tryz.prog.cellsOf _ = 1 from cells_133] at g0
  replace g0 : DataW.trod _ _ _ _ _ _ _ 133 [c0] = _ := g0
  obtain ⟨A0, n0, k0, x0, e0, f0, hc0, hn0, hg0⟩ := open_SlE (F := encCell) (good := goodCell) Tryz.underlying133 cells_308 (fun _ _ _ h_ => open_Cell h_) g0
  cases e0
  exact ⟨⟨⟨A0, n0, k0, x0⟩⟩, rfl, ⟨f0, hc0, hn0⟩⟩
theorem cells_137 : Tryz.prog.cellsOf 137 = 1 := by kernel_rfl
theorem cells_139 : Tryz.prog.cellsOf 139 = 31 := by kernel_rfl
theorem open_ScrR {H : Type} {enc : TypeId × Value → H} {w : World} {base : Nat} {spare : Nat → Bool} {held : Bool} {fuel : Nat} {cs : List Value} {x : DataW H × List MemPlace} (h : DataW.trod enc Tryz.prog w base spare held fuel 139 cs = some x) : ∃ d, cs = encScrR.enc d ∧ okScrR 9223372036854775807 w d := by
  obtain ⟨hl, n, hg⟩ := trod_flds Tryz.underlying139 h
  rw [cells_139] at hl
  obtain ⟨c0, l0, rfl, z0⟩ := list_succ hl
  obtain ⟨c1, l1, rfl, z1⟩ := list_succ z0
  obtain ⟨c2, l2, rfl, z2⟩ := list_succ z1
  obtain ⟨c3, l3, rfl, z3⟩ := list_succ z2
  obtain ⟨c4, l4, rfl, z4⟩ := list_succ z3
  obtain ⟨c5, l5, rfl, z5⟩ := list_succ z4
  obtain ⟨c6, l6, rfl, z6⟩ := list_succ z5
  obtain ⟨c7, l7, rfl, z7⟩ := list_succ z6
  obtain ⟨c8, l8, rfl, z8⟩ := list_succ z7
  obtain ⟨c9, l9, rfl, z9⟩ := list_succ z8
  obtain ⟨c10, l10, rfl, z10⟩ := list_succ z9
  obtain ⟨c11, l11, rfl, z11⟩ := list_succ z10
  obtain ⟨c12, l12, rfl, z12⟩ := list_succ z11
  obtain ⟨c13, l13, rfl, z13⟩ := list_succ z12
  obtain ⟨c14, l14, rfl, z14⟩ := list_succ z13
  obtain ⟨c15, l15, rfl, z15⟩ := list_succ z14
  obtain ⟨c16, l16, rfl, z16⟩ := list_succ z15
  obtain ⟨c17, l17, rfl, z17⟩ := list_succ z16
  obtain ⟨c18, l18, rfl, z18⟩ := list_succ z17
  obtain ⟨c19, l19, rfl, z19⟩ := list_succ z18
  obtain ⟨c20, l20, rfl, z20⟩ := list_succ z19
  obtain ⟨c21, l21, rfl, z21⟩ := list_succ z20
  obtain ⟨c22, l22, rfl, z22⟩ := list_succ z21
  obtain ⟨c23, l23, rfl, z23⟩ := list_succ z22
  obtain ⟨c24, l24, rfl, z24⟩ := list_succ z23
  obtain ⟨c25, l25, rfl, z25⟩ := list_succ z24
  obtain ⟨c26, l26, rfl, z26⟩ := list_succ z25
  obtain ⟨c27, l27, rfl, z27⟩ := list_succ z26
  obtain ⟨c28, l28, rfl, z28⟩ := list_succ z27
  obtain ⟨c29, l29, rfl, z29⟩ := list_succ z28
  obtain ⟨c30, l30, rfl, z30⟩ := list_succ z29
  obtain rfl := list_zero z30
  obtain ⟨y0, g0⟩ := hg 0 _ rfl
  rw [show Tryz.prog.cellsOf _ = 1 from cells_3] at g0
  replace g0 : DataW.trod _ _ _ _ _ _ _ 3 [c0] = _ := g0
  obtain ⟨x0, e0, w0⟩ := open_i64 Tryz.underlying3 g0
  obtain ⟨y1, g1⟩ := hg 1 _ rfl
  rw [show Tryz.prog.cellsOf _ = 1 from cells_3] at g1
  replace g1 : DataW.trod _ _ _ _ _ _ _ 3 [c1] = _ := g1
  obtain ⟨x1, e1, w1⟩ := open_i64 Tryz.underlying3 g1
  obtain ⟨y2, g2⟩ := hg 2 _ rfl
  rw [show Tryz.prog.cellsOf _ = 3 from cells_135] at g2
  replace g2 : DataW.trod _ _ _ _ _ _ _ 135 [c2, c3, c4] = _ := g2
  obtain ⟨x2, e2, o2⟩ := open_GridR g2
  replace e2 : [c2, c3, c4] = [i64 x2.W, i64 x2.H, .slice x2.Cells.A x2.Cells.n x2.Cells.c] := e2
  obtain ⟨y3, g3⟩ := hg 3 _ rfl
  rw [show Tryz.prog.cellsOf _ = 3 from cells_135] at g3
  replace g3 : DataW.trod _ _ _ _ _ _ _ 135 [c5, c6, c7] = _ := g3
  obtain ⟨x3, e3, o3⟩ := open_GridR g3
  replace e3 : [c5, c6, c7] = [i64 x3.W, i64 x3.H, .slice x3.Cells.A x3.Cells.n x3.Cells.c] := e3
  obtain ⟨y4, g4⟩ := hg 4 _ rfl
  rw [show Tryz.prog.cellsOf _ = 1 from cells_4] at g4
  replace g4 : DataW.trod _ _ _ _ _ _ _ 4 [c8] = _ := g4
  obtain ⟨x4, e4⟩ := open_bool' Tryz.underlying4 g4
  obtain ⟨y5, g5⟩ := hg 5 _ rfl
  rw [show Tryz.prog.cellsOf _ = 1 from cells_3] at g5
  replace g5 : DataW.trod _ _ _ _ _ _ _ 3 [c9] = _ := g5
  obtain ⟨x5, e5, w5⟩ := open_i64 Tryz.underlying3 g5
  obtain ⟨y6, g6⟩ := hg 6 _ rfl
  rw [show Tryz.prog.cellsOf _ = 1 from cells_3] at g6
  replace g6 : DataW.trod _ _ _ _ _ _ _ 3 [c10] = _ := g6
  obtain ⟨x6, e6, w6⟩ := open_i64 Tryz.underlying3 g6
  obtain ⟨y7, g7⟩ := hg 7 _ rfl
  rw [show Tryz.prog.cellsOf _ = 1 from cells_4] at g7
  replace g7 : DataW.trod _ _ _ _ _ _ _ 4 [c11] = _ := g7
  obtain ⟨x7, e7⟩ := open_bool' Tryz.underlying4 g7
  obtain ⟨y8, g8⟩ := hg 8 _ rfl
  rw [show Tryz.prog.cellsOf _ = 5 from cells_136] at g8
  replace g8 : DataW.trod _ _ _ _ _ _ _ 136 [c12, c13, c14, c15, c16] = _ := g8
  obtain ⟨x8, e8, w8⟩ := open_Attr g8
  replace e8 : [c12, c13, c14, c15, c16] = [i64 x8.Fg, i64 x8.Bg, .bool x8.Bold, .bool x8.Under, .bool x8.Turn] := e8
  obtain ⟨y9, g9⟩ := hg 9 _ rfl
  rw [show Tryz.prog.cellsOf _ = 1 from cells_3] at g9
  replace g9 : DataW.trod _ _ _ _ _ _ _ 3 [c17] = _ := g9
  obtain ⟨x9, e9, w9⟩ := open_i64 Tryz.underlying3 g9
  obtain ⟨y10, g10⟩ := hg 10 _ rfl
  rw [show Tryz.prog.cellsOf _ = 1 from cells_3] at g10
  replace g10 : DataW.trod _ _ _ _ _ _ _ 3 [c18] = _ := g10
  obtain ⟨x10, e10, w10⟩ := open_i64 Tryz.underlying3 g10
  obtain ⟨y11, g11⟩ := hg 11 _ rfl
  rw [show Tryz.prog.cellsOf _ = 1 from cells_4] at g11
  replace g11 : DataW.trod _ _ _ _ _ _ _ 4 [c19] = _ := g11
  obtain ⟨x11, e11⟩ := open_bool' Tryz.underlying4 g11
  obtain ⟨y12, g12⟩ := hg 12 _ rfl
  rw [show Tryz.prog.cellsOf _ = 1 from cells_4] at g12
  replace g12 : DataW.trod _ _ _ _ _ _ _ 4 [c20] = _ := g12
  obtain ⟨x12, e12⟩ := open_bool' Tryz.underlying4 g12
  obtain ⟨y13, g13⟩ := hg 13 _ rfl
  rw [show Tryz.prog.cellsOf _ = 1 from cells_3] at g13
  replace g13 : DataW.trod _ _ _ _ _ _ _ 3 [c21] = _ := g13
  obtain ⟨x13, e13, w13⟩ := open_i64 Tryz.underlying3 g13
  obtain ⟨y14, g14⟩ := hg 14 _ rfl
  rw [show Tryz.prog.cellsOf _ = 1 from cells_3] at g14
  replace g14 : DataW.trod _ _ _ _ _ _ _ 3 [c22] = _ := g14
  obtain ⟨x14, e14, w14⟩ := open_i64 Tryz.underlying3 g14
  obtain ⟨y15, g15⟩ := hg 15 _ rfl
  rw [show Tryz.prog.cellsOf _ = 5 from cells_136] at g15
  replace g15 : DataW.trod _ _ _ _ _ _ _ 136 [c23, c24, c25, c26, c27] = _ := g15
  obtain ⟨x15, e15, w15⟩ := open_Attr g15
  replace e15 : [c23, c24, c25, c26, c27] = [i64 x15.Fg, i64 x15.Bg, .bool x15.Bold, .bool x15.Under, .bool x15.Turn] := e15
  obtain ⟨y16, g16⟩ := hg 16 _ rfl
  rw [show Tryz.prog.cellsOf _ = 1 from cells_60] at g16
  replace g16 : DataW.trod _ _ _ _ _ _ _ 60 [c28] = _ := g16
  obtain ⟨A16, n16, k16, x16, e16, f16, hc16, hn16, hg16⟩ := open_SlE (F := encI) (good := fun n => In64 n) Tryz.underlying60 cells_3 (fun _ _ _ h_ => open_e64 Tryz.underlying3 h_) g16
  obtain ⟨y17, g17⟩ := hg 17 _ rfl
  rw [show Tryz.prog.cellsOf _ = 1 from cells_3] at g17
  replace g17 : DataW.trod _ _ _ _ _ _ _ 3 [c29] = _ := g17
  obtain ⟨x17, e17, w17⟩ := open_i64 Tryz.underlying3 g17
  obtain ⟨y18, g18⟩ := hg 18 _ rfl
  rw [show Tryz.prog.cellsOf _ = 1 from cells_137] at g18
  replace g18 : DataW.trod _ _ _ _ _ _ _ 137 [c30] = _ := g18
  obtain ⟨A18, n18, k18, x18, e18, f18, hc18, hn18, hg18⟩ := open_SlE (F := encRowR) (good := fun d => okRowR 9223372036854775807 w d) Tryz.underlying137 cells_285 (fun _ _ _ h_ => open_RowR h_) g18
  cases e0
  cases e1
  cases e2
  cases e3
  cases e4
  cases e5
  cases e6
  cases e7
  cases e8
  cases e9
  cases e10
  cases e11
  cases e12
  cases e13
  cases e14
  cases e15
  cases e16
  cases e17
  cases e18
  exact ⟨⟨x0, x1, x2, x3, x4, x5, x6, x7, x8, x9, x10, x11, x12, x13, x14, x15, ⟨A16, n16, k16, x16⟩, x17, ⟨A18, n18, k18, x18⟩⟩, rfl, ⟨o2, o3, f16, hc16, hn16, ⟨f18, hg18⟩, hc18, hn18⟩⟩
theorem cells_141 : Tryz.prog.cellsOf 141 = 35 := by kernel_rfl
theorem open_TermR {H : Type} {enc : TypeId × Value → H} {w : World} {base : Nat} {spare : Nat → Bool} {held : Bool} {fuel : Nat} {cs : List Value} {x : DataW H × List MemPlace} (h : DataW.trod enc Tryz.prog w base spare held fuel 141 cs = some x) : ∃ d, cs = encTermR.enc d ∧ okTermR 9223372036854775807 w d := by
  obtain ⟨hl, n, hg⟩ := trod_flds Tryz.underlying141 h
  rw [cells_141] at hl
  obtain ⟨c0, l0, rfl, z0⟩ := list_succ hl
  obtain ⟨c1, l1, rfl, z1⟩ := list_succ z0
  obtain ⟨c2, l2, rfl, z2⟩ := list_succ z1
  obtain ⟨c3, l3, rfl, z3⟩ := list_succ z2
  obtain ⟨c4, l4, rfl, z4⟩ := list_succ z3
  obtain ⟨c5, l5, rfl, z5⟩ := list_succ z4
  obtain ⟨c6, l6, rfl, z6⟩ := list_succ z5
  obtain ⟨c7, l7, rfl, z7⟩ := list_succ z6
  obtain ⟨c8, l8, rfl, z8⟩ := list_succ z7
  obtain ⟨c9, l9, rfl, z9⟩ := list_succ z8
  obtain ⟨c10, l10, rfl, z10⟩ := list_succ z9
  obtain ⟨c11, l11, rfl, z11⟩ := list_succ z10
  obtain ⟨c12, l12, rfl, z12⟩ := list_succ z11
  obtain ⟨c13, l13, rfl, z13⟩ := list_succ z12
  obtain ⟨c14, l14, rfl, z14⟩ := list_succ z13
  obtain ⟨c15, l15, rfl, z15⟩ := list_succ z14
  obtain ⟨c16, l16, rfl, z16⟩ := list_succ z15
  obtain ⟨c17, l17, rfl, z17⟩ := list_succ z16
  obtain ⟨c18, l18, rfl, z18⟩ := list_succ z17
  obtain ⟨c19, l19, rfl, z19⟩ := list_succ z18
  obtain ⟨c20, l20, rfl, z20⟩ := list_succ z19
  obtain ⟨c21, l21, rfl, z21⟩ := list_succ z20
  obtain ⟨c22, l22, rfl, z22⟩ := list_succ z21
  obtain ⟨c23, l23, rfl, z23⟩ := list_succ z22
  obtain ⟨c24, l24, rfl, z24⟩ := list_succ z23
  obtain ⟨c25, l25, rfl, z25⟩ := list_succ z24
  obtain ⟨c26, l26, rfl, z26⟩ := list_succ z25
  obtain ⟨c27, l27, rfl, z27⟩ := list_succ z26
  obtain ⟨c28, l28, rfl, z28⟩ := list_succ z27
  obtain ⟨c29, l29, rfl, z29⟩ := list_succ z28
  obtain ⟨c30, l30, rfl, z30⟩ := list_succ z29
  obtain ⟨c31, l31, rfl, z31⟩ := list_succ z30
  obtain ⟨c32, l32, rfl, z32⟩ := list_succ z31
  obtain ⟨c33, l33, rfl, z33⟩ := list_succ z32
  obtain ⟨c34, l34, rfl, z34⟩ := list_succ z33
  obtain rfl := list_zero z34
  obtain ⟨y0, g0⟩ := hg 0 _ rfl
  rw [show Tryz.prog.cellsOf _ = 4 from cells_132] at g0
  replace g0 : DataW.trod _ _ _ _ _ _ _ 132 [c0, c1, c2, c3] = _ := g0
  obtain ⟨x0, e0, o0⟩ := open_VpR g0
  replace e0 : [c0, c1, c2, c3] = [i64 x0.State, .bool x0.Mark, .slice x0.Args.A x0.Args.n x0.Args.c, .slice x0.Part.A x0.Part.n x0.Part.c] := e0
  obtain ⟨y1, g1⟩ := hg 1 _ rfl
  rw [show Tryz.prog.cellsOf _ = 31 from cells_139] at g1
  replace g1 : DataW.trod _ _ _ _ _ _ _ 139 [c4, c5, c6, c7, c8, c9, c10, c11, c12, c13, c14, c15, c16, c17, c18, c19, c20, c21, c22, c23, c24, c25, c26, c27, c28, c29, c30, c31, c32, c33, c34] = _ := g1
  obtain ⟨x1, e1, o1⟩ := open_ScrR g1
  replace e1 : [c4, c5, c6, c7, c8, c9, c10, c11, c12, c13, c14, c15, c16, c17, c18, c19, c20, c21, c22, c23, c24, c25, c26, c27, c28, c29, c30, c31, c32, c33, c34] = (cScr x1) := e1
  cases e0
  cases e1
  exact ⟨⟨x0, x1⟩, rfl, ⟨o0, o1⟩⟩
theorem cells_9 : Tryz.prog.cellsOf 9 = 1 := by kernel_rfl
theorem cells_143 : Tryz.prog.cellsOf 143 = 41 := by kernel_rfl
theorem open_PaneR {H : Type} {enc : TypeId × Value → H} {w : World} {base : Nat} {spare : Nat → Bool} {held : Bool} {fuel : Nat} {cs : List Value} {x : DataW H × List MemPlace} (h : DataW.trod enc Tryz.prog w base spare held fuel 143 cs = some x) : ∃ d, cs = encPaneR.enc d ∧ okPaneR 9223372036854775807 w d := by
  obtain ⟨hl, n, hg⟩ := trod_flds Tryz.underlying143 h
  rw [cells_143] at hl
  obtain ⟨c0, l0, rfl, z0⟩ := list_succ hl
  obtain ⟨c1, l1, rfl, z1⟩ := list_succ z0
  obtain ⟨c2, l2, rfl, z2⟩ := list_succ z1
  obtain ⟨c3, l3, rfl, z3⟩ := list_succ z2
  obtain ⟨c4, l4, rfl, z4⟩ := list_succ z3
  obtain ⟨c5, l5, rfl, z5⟩ := list_succ z4
  obtain ⟨c6, l6, rfl, z6⟩ := list_succ z5
  obtain ⟨c7, l7, rfl, z7⟩ := list_succ z6
  obtain ⟨c8, l8, rfl, z8⟩ := list_succ z7
  obtain ⟨c9, l9, rfl, z9⟩ := list_succ z8
  obtain ⟨c10, l10, rfl, z10⟩ := list_succ z9
  obtain ⟨c11, l11, rfl, z11⟩ := list_succ z10
  obtain ⟨c12, l12, rfl, z12⟩ := list_succ z11
  obtain ⟨c13, l13, rfl, z13⟩ := list_succ z12
  obtain ⟨c14, l14, rfl, z14⟩ := list_succ z13
  obtain ⟨c15, l15, rfl, z15⟩ := list_succ z14
  obtain ⟨c16, l16, rfl, z16⟩ := list_succ z15
  obtain ⟨c17, l17, rfl, z17⟩ := list_succ z16
  obtain ⟨c18, l18, rfl, z18⟩ := list_succ z17
  obtain ⟨c19, l19, rfl, z19⟩ := list_succ z18
  obtain ⟨c20, l20, rfl, z20⟩ := list_succ z19
  obtain ⟨c21, l21, rfl, z21⟩ := list_succ z20
  obtain ⟨c22, l22, rfl, z22⟩ := list_succ z21
  obtain ⟨c23, l23, rfl, z23⟩ := list_succ z22
  obtain ⟨c24, l24, rfl, z24⟩ := list_succ z23
  obtain ⟨c25, l25, rfl, z25⟩ := list_succ z24
  obtain ⟨c26, l26, rfl, z26⟩ := list_succ z25
  obtain ⟨c27, l27, rfl, z27⟩ := list_succ z26
  obtain ⟨c28, l28, rfl, z28⟩ := list_succ z27
  obtain ⟨c29, l29, rfl, z29⟩ := list_succ z28
  obtain ⟨c30, l30, rfl, z30⟩ := list_succ z29
  obtain ⟨c31, l31, rfl, z31⟩ := list_succ z30
  obtain ⟨c32, l32, rfl, z32⟩ := list_succ z31
  obtain ⟨c33, l33, rfl, z33⟩ := list_succ z32
  obtain ⟨c34, l34, rfl, z34⟩ := list_succ z33
  obtain ⟨c35, l35, rfl, z35⟩ := list_succ z34
  obtain ⟨c36, l36, rfl, z36⟩ := list_succ z35
  obtain ⟨c37, l37, rfl, z37⟩ := list_succ z36
  obtain ⟨c38, l38, rfl, z38⟩ := list_succ z37
  obtain ⟨c39, l39, rfl, z39⟩ := list_succ z38
  obtain ⟨c40, l40, rfl, z40⟩ := list_succ z39
  obtain rfl := list_zero z40
  obtain ⟨y0, g0⟩ := hg 0 _ rfl
  rw [show Tryz.prog.cellsOf _ = 1 from cells_3] at g0
  replace g0 : DataW.trod _ _ _ _ _ _ _ 3 [c0] = _ := g0
  obtain ⟨x0, e0, w0⟩ := open_i64 Tryz.underlying3 g0
  obtain ⟨y1, g1⟩ := hg 1 _ rfl
  rw [show Tryz.prog.cellsOf _ = 1 from cells_9] at g1
  replace g1 : DataW.trod _ _ _ _ _ _ _ 9 [c1] = _ := g1
  obtain ⟨x1, e1, w1⟩ := open_str Tryz.underlying9 g1
  obtain ⟨y2, g2⟩ := hg 2 _ rfl
  rw [show Tryz.prog.cellsOf _ = 1 from cells_9] at g2
  replace g2 : DataW.trod _ _ _ _ _ _ _ 9 [c2] = _ := g2
  obtain ⟨x2, e2, w2⟩ := open_str Tryz.underlying9 g2
  obtain ⟨y3, g3⟩ := hg 3 _ rfl
  rw [show Tryz.prog.cellsOf _ = 1 from cells_3] at g3
  replace g3 : DataW.trod _ _ _ _ _ _ _ 3 [c3] = _ := g3
  obtain ⟨x3, e3, w3⟩ := open_i64 Tryz.underlying3 g3
  obtain ⟨y4, g4⟩ := hg 4 _ rfl
  rw [show Tryz.prog.cellsOf _ = 1 from cells_3] at g4
  replace g4 : DataW.trod _ _ _ _ _ _ _ 3 [c4] = _ := g4
  obtain ⟨x4, e4, w4⟩ := open_i64 Tryz.underlying3 g4
  obtain ⟨y5, g5⟩ := hg 5 _ rfl
  rw [show Tryz.prog.cellsOf _ = 1 from cells_3] at g5
  replace g5 : DataW.trod _ _ _ _ _ _ _ 3 [c5] = _ := g5
  obtain ⟨x5, e5, w5⟩ := open_i64 Tryz.underlying3 g5
  obtain ⟨y6, g6⟩ := hg 6 _ rfl
  rw [show Tryz.prog.cellsOf _ = 35 from cells_141] at g6
  replace g6 : DataW.trod _ _ _ _ _ _ _ 141 [c6, c7, c8, c9, c10, c11, c12, c13, c14, c15, c16, c17, c18, c19, c20, c21, c22, c23, c24, c25, c26, c27, c28, c29, c30, c31, c32, c33, c34, c35, c36, c37, c38, c39, c40] = _ := g6
  obtain ⟨x6, e6, o6⟩ := open_TermR g6
  replace e6 : [c6, c7, c8, c9, c10, c11, c12, c13, c14, c15, c16, c17, c18, c19, c20, c21, c22, c23, c24, c25, c26, c27, c28, c29, c30, c31, c32, c33, c34, c35, c36, c37, c38, c39, c40] = [i64 x6.P.State, .bool x6.P.Mark, .slice x6.P.Args.A x6.P.Args.n x6.P.Args.c, .slice x6.P.Part.A x6.P.Part.n x6.P.Part.c, i64 x6.S.W, i64 x6.S.H, i64 x6.S.Main.W, i64 x6.S.Main.H, .slice x6.S.Main.Cells.A x6.S.Main.Cells.n x6.S.Main.Cells.c, i64 x6.S.Alt.W, i64 x6.S.Alt.H, .slice x6.S.Alt.Cells.A x6.S.Alt.Cells.n x6.S.Alt.Cells.c, .bool x6.S.OnAlt, i64 x6.S.X, i64 x6.S.Y, .bool x6.S.Wrap, i64 x6.S.A.Fg, i64 x6.S.A.Bg, .bool x6.S.A.Bold, .bool x6.S.A.Under, .bool x6.S.A.Turn, i64 x6.S.Top, i64 x6.S.Bot, .bool x6.S.NoWrap, .bool x6.S.Hide, i64 x6.S.SaveX, i64 x6.S.SaveY, i64 x6.S.SaveA.Fg, i64 x6.S.SaveA.Bg, .bool x6.S.SaveA.Bold, .bool x6.S.SaveA.Under, .bool x6.S.SaveA.Turn, .slice x6.S.Tabs.A x6.S.Tabs.n x6.S.Tabs.c, i64 x6.S.Limit, .slice x6.S.Back.A x6.S.Back.n x6.S.Back.c] := e6
  cases e0
  cases e1
  cases e2
  cases e3
  cases e4
  cases e5
  cases e6
  exact ⟨⟨x0, x1, x2, x3, x4, x5, x6⟩, rfl, ⟨w1, w2, o6⟩⟩
theorem cells_230 : Tryz.prog.cellsOf 230 = 3 := by kernel_rfl
def goodNode (d : NodeD) : Prop := In64 d.Pane ∧ In64 d.First
theorem open_Node {H : Type} {enc : TypeId × Value → H} {w : World} {base : Nat} {spare : Nat → Bool} {held : Bool} {fuel : Nat} {cs : List Value} {x : DataW H × List MemPlace} (h : DataW.trod enc Tryz.prog w base spare held fuel 230 cs = some x) : ∃ d, cs = encNode.enc d ∧ goodNode d := by
  obtain ⟨hl, n, hg⟩ := trod_flds Tryz.underlying230 h
  rw [cells_230] at hl
  obtain ⟨c0, l0, rfl, z0⟩ := list_succ hl
  obtain ⟨c1, l1, rfl, z1⟩ := list_succ z0
  obtain ⟨c2, l2, rfl, z2⟩ := list_succ z1
  obtain rfl := list_zero z2
  obtain ⟨y0, g0⟩ := hg 0 _ rfl
  rw [show Tryz.prog.cellsOf _ = 1 from cells_3] at g0
  replace g0 : DataW.trod _ _ _ _ _ _ _ 3 [c0] = _ := g0
  obtain ⟨x0, e0, w0⟩ := open_i64 Tryz.underlying3 g0
  obtain ⟨y1, g1⟩ := hg 1 _ rfl
  rw [show Tryz.prog.cellsOf _ = 1 from cells_4] at g1
  replace g1 : DataW.trod _ _ _ _ _ _ _ 4 [c1] = _ := g1
  obtain ⟨x1, e1⟩ := open_bool' Tryz.underlying4 g1
  obtain ⟨y2, g2⟩ := hg 2 _ rfl
  rw [show Tryz.prog.cellsOf _ = 1 from cells_3] at g2
  replace g2 : DataW.trod _ _ _ _ _ _ _ 3 [c2] = _ := g2
  obtain ⟨x2, e2, w2⟩ := open_i64 Tryz.underlying3 g2
  cases e0
  cases e1
  cases e2
  exact ⟨⟨x0, x1, x2⟩, rfl, ⟨w0, w2⟩⟩
theorem cells_145 : Tryz.prog.cellsOf 145 = 1 := by kernel_rfl
theorem cells_147 : Tryz.prog.cellsOf 147 = 5 := by kernel_rfl
theorem open_WinR {H : Type} {enc : TypeId × Value → H} {w : World} {base : Nat} {spare : Nat → Bool} {held : Bool} {fuel : Nat} {cs : List Value} {x : DataW H × List MemPlace} (h : DataW.trod enc Tryz.prog w base spare held fuel 147 cs = some x) : ∃ d, cs = encWinR.enc d ∧ okWinR 9223372036854775807 w d := by
  obtain ⟨hl, n, hg⟩ := trod_flds Tryz.underlying147 h
  rw [cells_147] at hl
  obtain ⟨c0, l0, rfl, z0⟩ := list_succ hl
  obtain ⟨c1, l1, rfl, z1⟩ := list_succ z0
  obtain ⟨c2, l2, rfl, z2⟩ := list_succ z1
  obtain ⟨c3, l3, rfl, z3⟩ := list_succ z2
  obtain ⟨c4, l4, rfl, z4⟩ := list_succ z3
  obtain rfl := list_zero z4
  obtain ⟨y0, g0⟩ := hg 0 _ rfl
  rw [show Tryz.prog.cellsOf _ = 1 from cells_3] at g0
  replace g0 : DataW.trod _ _ _ _ _ _ _ 3 [c0] = _ := g0
  obtain ⟨x0, e0, w0⟩ := open_i64 Tryz.underlying3 g0
  obtain ⟨y1, g1⟩ := hg 1 _ rfl
  rw [show Tryz.prog.cellsOf _ = 1 from cells_9] at g1
  replace g1 : DataW.trod _ _ _ _ _ _ _ 9 [c1] = _ := g1
  obtain ⟨x1, e1, w1⟩ := open_str Tryz.underlying9 g1
  obtain ⟨y2, g2⟩ := hg 2 _ rfl
  rw [show Tryz.prog.cellsOf _ = 1 from cells_145] at g2
  replace g2 : DataW.trod _ _ _ _ _ _ _ 145 [c2] = _ := g2
  obtain ⟨A2, n2, k2, x2, e2, f2, hc2, hn2, hg2⟩ := open_SlE (F := encNode) (good := goodNode) Tryz.underlying145 cells_230 (fun _ _ _ h_ => open_Node h_) g2
  obtain ⟨y3, g3⟩ := hg 3 _ rfl
  rw [show Tryz.prog.cellsOf _ = 1 from cells_3] at g3
  replace g3 : DataW.trod _ _ _ _ _ _ _ 3 [c3] = _ := g3
  obtain ⟨x3, e3, w3⟩ := open_i64 Tryz.underlying3 g3
  obtain ⟨y4, g4⟩ := hg 4 _ rfl
  rw [show Tryz.prog.cellsOf _ = 1 from cells_4] at g4
  replace g4 : DataW.trod _ _ _ _ _ _ _ 4 [c4] = _ := g4
  obtain ⟨x4, e4⟩ := open_bool' Tryz.underlying4 g4
  cases e0
  cases e1
  cases e2
  cases e3
  cases e4
  exact ⟨⟨x0, x1, ⟨A2, n2, k2, x2⟩, x3, x4⟩, rfl, ⟨w1, f2, hc2, hn2⟩⟩
theorem cells_149 : Tryz.prog.cellsOf 149 = 3 := by kernel_rfl
theorem open_SessR {H : Type} {enc : TypeId × Value → H} {w : World} {base : Nat} {spare : Nat → Bool} {held : Bool} {fuel : Nat} {cs : List Value} {x : DataW H × List MemPlace} (h : DataW.trod enc Tryz.prog w base spare held fuel 149 cs = some x) : ∃ d, cs = encSessR.enc d ∧ okSessR 9223372036854775807 w d := by
  obtain ⟨hl, n, hg⟩ := trod_flds Tryz.underlying149 h
  rw [cells_149] at hl
  obtain ⟨c0, l0, rfl, z0⟩ := list_succ hl
  obtain ⟨c1, l1, rfl, z1⟩ := list_succ z0
  obtain ⟨c2, l2, rfl, z2⟩ := list_succ z1
  obtain rfl := list_zero z2
  obtain ⟨y0, g0⟩ := hg 0 _ rfl
  rw [show Tryz.prog.cellsOf _ = 1 from cells_9] at g0
  replace g0 : DataW.trod _ _ _ _ _ _ _ 9 [c0] = _ := g0
  obtain ⟨x0, e0, w0⟩ := open_str Tryz.underlying9 g0
  obtain ⟨y1, g1⟩ := hg 1 _ rfl
  rw [show Tryz.prog.cellsOf _ = 1 from cells_60] at g1
  replace g1 : DataW.trod _ _ _ _ _ _ _ 60 [c1] = _ := g1
  obtain ⟨A1, n1, k1, x1, e1, f1, hc1, hn1, hg1⟩ := open_SlE (F := encI) (good := fun n => In64 n) Tryz.underlying60 cells_3 (fun _ _ _ h_ => open_e64 Tryz.underlying3 h_) g1
  obtain ⟨y2, g2⟩ := hg 2 _ rfl
  rw [show Tryz.prog.cellsOf _ = 1 from cells_3] at g2
  replace g2 : DataW.trod _ _ _ _ _ _ _ 3 [c2] = _ := g2
  obtain ⟨x2, e2, w2⟩ := open_i64 Tryz.underlying3 g2
  cases e0
  cases e1
  cases e2
  exact ⟨⟨x0, ⟨A1, n1, k1, x1⟩, x2⟩, rfl, ⟨w0, f1, hc1, hn1⟩⟩
theorem cells_22 : Tryz.prog.cellsOf 22 = 1 := by kernel_rfl
theorem cells_23 : Tryz.prog.cellsOf 23 = 1 := by kernel_rfl
theorem cells_24 : Tryz.prog.cellsOf 24 = 1 := by kernel_rfl
theorem cells_26 : Tryz.prog.cellsOf 26 = 7 := by kernel_rfl
theorem open_StateR {H : Type} {enc : TypeId × Value → H} {w : World} {base : Nat} {spare : Nat → Bool} {held : Bool} {fuel : Nat} {cs : List Value} {x : DataW H × List MemPlace} (h : DataW.trod enc Tryz.prog w base spare held fuel 26 cs = some x) : ∃ d, cs = encStateR.enc d ∧ okStateR 9223372036854775807 w d := by
  obtain ⟨hl, n, hg⟩ := trod_flds Tryz.underlying26 h
  rw [cells_26] at hl
  obtain ⟨c0, l0, rfl, z0⟩ := list_succ hl
  obtain ⟨c1, l1, rfl, z1⟩ := list_succ z0
  obtain ⟨c2, l2, rfl, z2⟩ := list_succ z1
  obtain ⟨c3, l3, rfl, z3⟩ := list_succ z2
  obtain ⟨c4, l4, rfl, z4⟩ := list_succ z3
  obtain ⟨c5, l5, rfl, z5⟩ := list_succ z4
  obtain ⟨c6, l6, rfl, z6⟩ := list_succ z5
  obtain rfl := list_zero z6
  obtain ⟨y0, g0⟩ := hg 0 _ rfl
  rw [show Tryz.prog.cellsOf _ = 1 from cells_3] at g0
  replace g0 : DataW.trod _ _ _ _ _ _ _ 3 [c0] = _ := g0
  obtain ⟨x0, e0, w0⟩ := open_i64 Tryz.underlying3 g0
  obtain ⟨y1, g1⟩ := hg 1 _ rfl
  rw [show Tryz.prog.cellsOf _ = 1 from cells_3] at g1
  replace g1 : DataW.trod _ _ _ _ _ _ _ 3 [c1] = _ := g1
  obtain ⟨x1, e1, w1⟩ := open_i64 Tryz.underlying3 g1
  obtain ⟨y2, g2⟩ := hg 2 _ rfl
  rw [show Tryz.prog.cellsOf _ = 1 from cells_3] at g2
  replace g2 : DataW.trod _ _ _ _ _ _ _ 3 [c2] = _ := g2
  obtain ⟨x2, e2, w2⟩ := open_i64 Tryz.underlying3 g2
  obtain ⟨y3, g3⟩ := hg 3 _ rfl
  rw [show Tryz.prog.cellsOf _ = 1 from cells_3] at g3
  replace g3 : DataW.trod _ _ _ _ _ _ _ 3 [c3] = _ := g3
  obtain ⟨x3, e3, w3⟩ := open_i64 Tryz.underlying3 g3
  obtain ⟨y4, g4⟩ := hg 4 _ rfl
  rw [show Tryz.prog.cellsOf _ = 1 from cells_22] at g4
  replace g4 : DataW.trod _ _ _ _ _ _ _ 22 [c4] = _ := g4
  obtain ⟨A4, n4, k4, x4, e4, f4, hc4, hn4, hg4⟩ := open_SlE (F := encPaneR) (good := fun d => okPaneR 9223372036854775807 w d) Tryz.underlying22 cells_143 (fun _ _ _ h_ => open_PaneR h_) g4
  obtain ⟨y5, g5⟩ := hg 5 _ rfl
  rw [show Tryz.prog.cellsOf _ = 1 from cells_23] at g5
  replace g5 : DataW.trod _ _ _ _ _ _ _ 23 [c5] = _ := g5
  obtain ⟨A5, n5, k5, x5, e5, f5, hc5, hn5, hg5⟩ := open_SlE (F := encWinR) (good := fun d => okWinR 9223372036854775807 w d) Tryz.underlying23 cells_147 (fun _ _ _ h_ => open_WinR h_) g5
  obtain ⟨y6, g6⟩ := hg 6 _ rfl
  rw [show Tryz.prog.cellsOf _ = 1 from cells_24] at g6
  replace g6 : DataW.trod _ _ _ _ _ _ _ 24 [c6] = _ := g6
  obtain ⟨A6, n6, k6, x6, e6, f6, hc6, hn6, hg6⟩ := open_SlE (F := encSessR) (good := fun d => okSessR 9223372036854775807 w d) Tryz.underlying24 cells_149 (fun _ _ _ h_ => open_SessR h_) g6
  cases e0
  cases e1
  cases e2
  cases e3
  cases e4
  cases e5
  cases e6
  exact ⟨⟨x0, x1, x2, x3, ⟨A4, n4, k4, x4⟩, ⟨A5, n5, k5, x5⟩, ⟨A6, n6, k6, x6⟩⟩, rfl, ⟨⟨f4, hg4⟩, hc4, hn4, ⟨f5, hg5⟩, hc5, hn5, ⟨f6, hg6⟩, hc6, hn6⟩⟩
namespace fnExactFit
open Go.ChangeShapes Go.WideShapes Go.ChangeAt Go.RowKit
theorem own : ownKnob Tryz.prog.godebug = none := by kernel_rfl
theorem laidOut : laidOutB Tryz.prog = true := by kernel_rfl
set_option maxRecDepth 100000 in
set_option maxHeartbeats 1000000 in
theorem lifted (os : Os) (started : os.Started) (H : Type) (enc : TypeId × Value → H) :
    ReturnsInHanded {} Tryz.checked os 8 .any (Rows.fnExactFitSpec.pre6 enc Tryz.prog Tryz.f8 Rows.fnExactFitRow.domain false) (Rows.fnExactFitSpec.post enc Tryz.prog Tryz.f8 false true false false) := by
  refine returnsInHanded_of_change (C := Tryz.checked) own started (by kernel_rfl) Tryz.func8
    (ChangeSpec.witness6 (enc := enc) (C := Tryz.checked) false ⟨#[], #[(Value.agg #[Value.int IntKind.i64 0, Value.int IntKind.i64 0, Value.int IntKind.i64 0, Value.int IntKind.i64 0, Value.slice none 0 0, Value.slice none 0 0, Value.slice none 0 0])], []⟩ 8 (by kernel_rfl) (by kernel_rfl) (by kernel_rfl) (by kernel_rfl)) ?_
  intro W base args ds gs before hval0 hW hcnd _
  have hval : ∀ (j : Nat) t v, Tryz.f8.params[j]? = some t → args[j]? = some v → Value.okWide Tryz.prog W .any base t v := hval0
  have hW' := hW
  obtain ⟨p, q, hA0, hV, rfl, hfz, hnd⟩ := hW
  have hA : DataW.TrodAll enc Tryz.prog W 0 (fun _ => true) true Tryz.f8.params.toList args.toList ds p := hA0
  rw [Tryz.params8] at hA hval
  obtain ⟨v0, vs0, d0, ds0, p0, q0, hargs, rfl, rfl, h0, r0⟩ := trodAll_cons hA
  obtain ⟨rfl, rfl, rfl⟩ := trodAll_nil r0
  obtain rfl : args = #[v0] := by cases args; simp_all
  obtain ⟨rfl, rfl⟩ := trodVars_none hV
  have k0 := h0
  have lt0 : ∀ x ∈ p0, x.block < W.heap.size := by obtain ⟨m, hm⟩ := k0; exact DataW.trod_lt m _ _ _ hm
  obtain ⟨cs0, rfl, hsz0⟩ := okWide_struct Tryz.underlying26 (hval 0 26 v0 rfl rfl)
  obtain ⟨l0⟩ := cs0
  obtain ⟨fuel0, hf0⟩ := h0
  replace hf0 : DataW.trod _ _ _ _ _ _ _ 26 l0 = _ := hf0
  obtain ⟨aS, rfl, f_aS⟩ := open_StateR hf0
  clear hA0 hval0
  refine (k189_ aS W f_aS).mono fun e W' ⟨he, hst⟩ => ?_
  have bel := hst.toBelow
  subst he
  exact ⟨_, rfl, _, _, _, [], _, [], hW', trodAll_mk1 (shut_bool Tryz.underlying4 _), (trodAll_cons_mk (Below.trod laidOut (by kernel_rfl) (of_decide_eq_true (by kernel_rfl)) k0 bel lt0) trodAll_mk0), rfl, bel.frame _, fun h => by cases h⟩
theorem jq0 : laidOutB Tryz.pinned.checked.prog = true := by kernel_rfl
theorem jq1 : mapsRowed Tryz.pinned.checked.prog = true := by kernel_rfl
theorem jq2 : Tryz.pinned.checked.prog.inPlace 8 = Rows.fnExactFitRow.inPlace := by kernel_rfl
theorem jq3 : Tryz.pinned.checked.prog.unfollowed 8 = Rows.fnExactFitRow.unfollowed := by kernel_rfl
theorem jq4 : Tryz.pinned.checked.prog.recurses 8 = Rows.fnExactFitRow.recurses := by kernel_rfl
theorem jq5 : Tryz.pinned.checked.prog.varsNamed 8 = Rows.fnExactFitRow.named := by kernel_rfl
theorem closed : joinedFacts Tryz.pinned.checked.prog 8 Tryz.f8 Rows.fnExactFitSpec Rows.fnExactFitRow = true := by
  unfold joinedFacts
  rw [jq0, jq1, jq2, jq3, jq4, jq5]
  kernel_rfl
theorem fnIs : Tryz.pinned.checked.prog.funcNamed Rows.fnExactFitRow.func = some 8 := by kernel_rfl
theorem instIs : Tryz.f8.isInstance Tryz.pinned.checked.prog Rows.fnExactFitRow.origin Rows.fnExactFitRow.targs := of_decide_eq_true (by kernel_rfl)
theorem wrapIs : Tryz.f8.isWrapper Tryz.pinned.checked.prog Rows.fnExactFitRow.wrapper Rows.fnExactFitRow.mainSum := by unfold Func.isWrapper; first | (rw [if_pos (by decide +kernel)]; kernel_rfl) | (rw [if_neg (by decide +kernel)]; exact ⟨rfl, rfl⟩)
theorem over : Rows.fnExactFitRow.holds Tryz.pinned (OpenSpec.ofChange Rows.fnExactFitSpec) :=
  OpenClaim.holds_of_wide 8 Tryz.f8 rfl rfl rfl rfl rfl rfl rfl ⟨rfl, rfl, rfl, rfl, rfl⟩ rfl rfl rfl rfl rfl fnIs Tryz.func8 closed instIs wrapIs
    (fun os started H enc _ => lifted os started H enc)
end fnExactFit
theorem fnExactFit_holds : Rows.FnExactFitSaid := fnExactFit.over
end Go.Proofs.YthfhhldbglaieaaGreat
