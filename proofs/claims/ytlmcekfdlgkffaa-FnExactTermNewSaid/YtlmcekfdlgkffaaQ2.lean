/- Walks of Go functions, printed by a program (wip/gen). -/
import Derived.Test.YtlmcekfdlgkffaaT2
import Derived.Test.YtlmcekfdlgkffaaM11
namespace Go.Proofs.Ytlmcekfdlgkffaa
open Go Go.RowKit
set_option linter.unusedVariables false
set_option linter.unusedSimpArgs false
set_option maxHeartbeats 8000000 in
theorem c_laws_FnExactTermNew (aW : Int) (aH : Int) (aLimit : Int) (w : World) :
    Calls Try.prog 3 #[i64 aW, i64 aH, i64 aLimit] w fun e w' => e = .returned (.bool true) ∧ St w [] [] w' := by
 have hT := termRes_tot (w := aW) (h := aH) (l := aLimit)
 have hTB : smTerm 1099511627776 (termRes aW aH aLimit) := totTerm_sm (by omega)
 refine enter (vs := [i64 aW, i64 aH, i64 aLimit]) 73 Try.func3 rfl Try.ntmps3 rfl rfl ?_
 have hs1 := St.init w
 refine WC.rr tbk hs1 [] rfl trivial ?_
 refine WC.sr ?_
 refine WL.run tbk 3 hs1 [] rfl trivial ?_
 refine WL.call rfl rfl rfl (Run.call Try.call12 rfl rfl rfl) (c_spec_TermNew _ _ _ _) ?_
 rintro _ whs2 ⟨r03, L04, rfl, hs2, ho5, hd06⟩
 replace hs2 := hs1.callF hs2
 refine ⟨_, rfl, ?_⟩
 refine WL.run tbk 3 hs2 [] rfl trivial ?_
 refine WL.al hs2 Try.zeroValue35 rfl rfl (fun b7 _ hs8 => ?_)
 refine WL.st tbk hs8 0 rfl rfl (fun _ hs9 => ?_)
 refine WL.run tbk 1 hs9 [] rfl trivial ?_
 refine WL.nil ?_
 refine WC.sr ?_
 refine WL.run tbk 3 hs9 [] rfl trivial ?_
 refine WL.call rfl rfl rfl (Run.call Try.call13 rfl rfl rfl) (c_impl_TermNew _ _ _ _) ?_
 rintro _ whs10 ⟨r011, L012, rfl, hs10, ho13, hd014⟩
 try simp only [hd06] at hd014
 replace hs10 := hs9.callF hs10
 refine ⟨_, rfl, ?_⟩
 replace hs10 := St.back [_] hs10
 have el1 := endTerm_le 1 r011
 rw [hd014] at el1
 have eg1 := endTerm_ge 1 r011
 have eb1 : endTerm 1 r011 ≤ 1099511627776 := by omega
 have en1_S_Back : r011.S.Back.xs.length ≤ 1099511627776 := by have h1 := tots_len totRow (r011.S.Back.xs.map RowR.dat); rw [List.length_map] at h1; have h2 : totTerm r011.dat ≤ 8015 := (by rw [hd014]; exact hT); simp only [GridR.dat, ScrR.dat, TermR.dat, VpR.dat, totGrid, totScr, totTerm, totVp] at h2; omega
 refine WL.run tbk 3 hs10 [] rfl trivial ?_
 refine WL.al hs10 Try.zeroValue35 rfl rfl (fun b15 _ hs16 => ?_)
 refine WL.st tbk hs16 0 rfl rfl (fun _ hs17 => ?_)
 refine WL.run tbk 1 hs17 [] rfl trivial ?_
 refine WL.nil ?_
 refine WC.seq (fun K18 hK18 => ?_)
 refine WC.sr ?_
 refine WL.run tbk 2 hs17 [0, 1] rfl ⟨rfl, rfl, trivial⟩ ?_
 refine WL.call rfl rfl rfl (Run.call Try.call14 rfl rfl rfl) (c_laws_eqTerm r011 r03 _ (ownTermR.ok (B := 1099511627776) ho13 (fun p_ hp_ => (hs17.own p_ (List.mem_append_right [_, _] (List.mem_append_left _ hp_))).1) (by rw [hd014]; assumption)) (ownTermR.ok (B := 1099511627776) ho5 (fun p_ hp_ => (hs17.own p_ (List.mem_append_right [_, _] (List.mem_append_right _ (List.mem_append_left _ hp_)))).1) (by rw [hd06]; assumption)) ?_) ?_
 · first | (first | assumption | rfl | omega) | (first | assumption | omega | (simp only [hd06, hd014, endAct, endGrid, endScr, endTerm, endVp]; first | done | assumption | omega))
 rintro _ whs19 ⟨rfl, hs19⟩
 replace hs19 := hs17.call0 hs19
 refine ⟨_, rfl, ?_⟩
 refine WL.run tbk 2 hs19 [] rfl trivial ?_
 refine WL.pO tbk 3 Acts.nil hs19 [] rfl rfl rfl rfl (fun g_ => trivial) ?_
 refine WL.nil ?_
 refine WC.condF rfl (by first | (simp; done) | (simp; omega) | (simp [hd06, hd014]; done) | (simp only [endAct, endGrid, endScr, endTerm, endVp]; simp; omega)) ?_
 refine WC.skip ?_
 refine hK18 _ _ ?_
 refine WC.rr tbk hs19 [] rfl trivial ?_
 refine WC.sr ?_
 refine WL.run tbk 2 hs19 [0] rfl ⟨rfl, trivial⟩ ?_
 refine WL.call rfl rfl rfl (Run.call Try.call15 rfl rfl rfl) (c_laws_markTerm r011 _ _ _ ho13 (fun p_ hp_ => (hs19.own p_ (List.mem_append_right [_, _] (List.mem_append_left _ hp_))).1) (St.nodupL (St.perm hs19 (L' := L012 ++ _) (perm_front (A := [_, _]) (List.Perm.refl _)))) ?_ ?_ ?_) ?_
 · first | (first | assumption | omega) | (first | assumption | omega | (simp only [hd06, hd014, endAct, endGrid, endScr, endTerm, endVp]; first | done | assumption | omega))
 · first | (first | assumption | omega | (simp only [endGrid, endScr, endTerm, endVp]; omega)) | (first | assumption | omega | (simp only [hd06, hd014, endAct, endGrid, endScr, endTerm, endVp]; first | done | assumption | omega))
 · first | (first | assumption | omega) | (first | assumption | omega | (simp only [hd06, hd014, endAct, endGrid, endScr, endTerm, endVp]; first | done | assumption | omega))
 rintro _ whs21 ⟨L122, rfl, hs21, ho23⟩
 replace hs21 := St.lend (St.perm hs19 (L' := L012 ++ _) (perm_front (A := [_, _]) (List.Perm.refl _))) hs21
 refine ⟨_, rfl, ?_⟩
 replace hs21 := St.back [_, _] hs21
 refine WL.run tbk 1 hs21 [] rfl trivial ?_
 refine WL.nil ?_
 refine WC.rr tbk hs21 [] rfl trivial ?_
 refine WC.sr ?_
 refine WL.run tbk 2 hs21 [0] rfl ⟨rfl, trivial⟩ ?_
 refine WL.call rfl rfl rfl (Run.call Try.call16 rfl rfl rfl) (c_laws_heldTerm _ _ _ (ownTermR.ok (B := 1099511627776) ho23 (fun p_ hp_ => (hs21.own p_ (List.mem_append_right [_, _] (List.mem_append_left _ hp_))).1) (markTerm_sm (by rw [hd014]; assumption))) ?_ ?_) ?_
 · first | (first | assumption | omega) | (first | assumption | omega | (simp only [hd06, hd014, endAct, endGrid, endScr, endTerm, endVp]; first | done | assumption | omega))
 · first | (first | assumption | omega | (simp only [endGrid, endScr, endTerm, endVp]; omega)) | (first | assumption | omega | (simp only [hd06, hd014, endAct, endGrid, endScr, endTerm, endVp]; first | done | assumption | omega))
 rintro _ whs24 ⟨rfl, hs24⟩
 replace hs24 := hs21.call0 hs24
 refine ⟨_, rfl, ?_⟩
 refine WL.run tbk 1 hs24 [] rfl trivial ?_
 refine WL.nil ?_
 refine WC.seq (fun K25 hK25 => ?_)
 refine WC.rr tbk hs24 [] rfl trivial ?_
 refine WC.condF rfl (by first | (simp; done) | (simp; omega) | (simp [hd06, hd014]; done) | (simp only [endAct, endGrid, endScr, endTerm, endVp]; simp; omega)) ?_
 refine WC.skip ?_
 refine hK25 _ _ ?_
 refine WC.seq (fun K27 hK27 => ?_)
 refine WC.rr tbk hs24 [] rfl trivial ?_
 refine WC.condF rfl (by first | (simp; done) | (simp; omega) | (simp [hd06, hd014]; done) | (simp only [endAct, endGrid, endScr, endTerm, endVp]; simp; omega)) ?_
 refine WC.skip ?_
 refine hK27 _ _ ?_
 refine WC.sr ?_
 refine WL.run tbk 3 hs24 [] rfl trivial ?_
 refine WL.call rfl rfl rfl (Run.call Try.call13 rfl rfl rfl) (c_impl_TermNew _ _ _ _) ?_
 rintro _ whs29 ⟨r030, L031, rfl, hs29, ho32, hd033⟩
 try simp only [hd06, hd014] at hd033
 replace hs29 := hs24.callF hs29
 refine ⟨_, rfl, ?_⟩
 replace hs29 := St.back [_, _] hs29
 refine WL.run tbk 3 hs29 [] rfl trivial ?_
 refine WL.al hs29 Try.zeroValue35 rfl rfl (fun b34 _ hs35 => ?_)
 refine WL.st tbk hs35 0 rfl rfl (fun _ hs36 => ?_)
 refine WL.run tbk 1 hs36 [] rfl trivial ?_
 refine WL.nil ?_
 refine WC.seq (fun K37 hK37 => ?_)
 refine WC.sr ?_
 refine WL.run tbk 2 hs36 [0, 2] rfl ⟨rfl, rfl, trivial⟩ ?_
 refine WL.call rfl rfl rfl (Run.call Try.call14 rfl rfl rfl) (c_laws_eqTerm r030 r03 _ (ownTermR.ok (B := 1099511627776) ho32 (fun p_ hp_ => (hs36.own p_ (List.mem_append_right [_, _, _] (List.mem_append_left _ hp_))).1) (by rw [hd033]; assumption)) (ownTermR.ok (B := 1099511627776) ho5 (fun p_ hp_ => (hs36.own p_ (List.mem_append_right [_, _, _] (List.mem_append_right _ (List.mem_append_right _ (List.mem_append_left _ hp_))))).1) (by rw [hd06]; assumption)) ?_) ?_
 · first | (first | assumption | rfl | omega) | (first | assumption | omega | (simp only [hd06, hd014, hd033, endAct, endGrid, endScr, endTerm, endVp]; first | done | assumption | omega))
 rintro _ whs38 ⟨rfl, hs38⟩
 replace hs38 := hs36.call0 hs38
 refine ⟨_, rfl, ?_⟩
 refine WL.run tbk 2 hs38 [] rfl trivial ?_
 refine WL.pO tbk 3 Acts.nil hs38 [] rfl rfl rfl rfl (fun g_ => trivial) ?_
 refine WL.nil ?_
 refine WC.condF rfl (by first | (simp; done) | (simp; omega) | (simp [hd06, hd014, hd033]; done) | (simp only [endAct, endGrid, endScr, endTerm, endVp]; simp; omega)) ?_
 refine WC.skip ?_
 refine hK37 _ _ ?_
 refine WC.rr tbk hs38 [] rfl trivial ?_
 refine WC.sr ?_
 refine WL.run tbk 2 hs38 [1] rfl ⟨rfl, trivial⟩ ?_
 refine WL.call rfl rfl rfl (Run.call Try.call16 rfl rfl rfl) (c_laws_heldTerm _ _ _ (ownTermR.ok (B := 1099511627776) ho23 (fun p_ hp_ => (hs38.own p_ (List.mem_append_right [_, _, _] (List.mem_append_right _ (List.mem_append_left _ hp_)))).1) (markTerm_sm (by rw [hd014]; assumption))) ?_ ?_) ?_
 · first | (first | assumption | omega) | (first | assumption | omega | (simp only [hd06, hd014, hd033, endAct, endGrid, endScr, endTerm, endVp]; first | done | assumption | omega))
 · first | (first | assumption | omega | (simp only [endGrid, endScr, endTerm, endVp]; omega)) | (first | assumption | omega | (simp only [hd06, hd014, hd033, endAct, endGrid, endScr, endTerm, endVp]; first | done | assumption | omega))
 rintro _ whs40 ⟨rfl, hs40⟩
 replace hs40 := hs38.call0 hs40
 refine ⟨_, rfl, ?_⟩
 refine WL.run tbk 1 hs40 [] rfl trivial ?_
 refine WL.nil ?_
 refine WC.seq (fun K41 hK41 => ?_)
 refine WC.rr tbk hs40 [] rfl trivial ?_
 refine WC.condF rfl (by first | (simp; done) | (simp; omega) | (simp [hd06, hd014, hd033]; done) | (simp only [endAct, endGrid, endScr, endTerm, endVp]; simp; omega)) ?_
 refine WC.skip ?_
 refine hK41 _ _ ?_
 refine WC.seq (fun K43 hK43 => ?_)
 refine WC.rr tbk hs40 [] rfl trivial ?_
 refine WC.condF rfl (by first | (simp; done) | (simp; omega) | (simp [hd06, hd014, hd033]; done) | (simp only [endAct, endGrid, endScr, endTerm, endVp]; simp; omega)) ?_
 refine WC.skip ?_
 refine hK43 _ _ ?_
 refine WC.rr tbk hs40 [] rfl trivial ?_
 refine WC.ret ?_
 refine retV1 rfl (resV.tmp rfl) ?_
 refine ⟨congrArg Ending.returned ?_, hs40.nil⟩
 rfl
end Go.Proofs.Ytlmcekfdlgkffaa
