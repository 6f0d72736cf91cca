/- Walks of Go functions, printed by a program (wip/gen). -/
import Derived.Test.YtlmcekfdlgkffaaB1
import Derived.Test.YtlmcekfdlgkffaaM10
namespace Go.Proofs.Ytlmcekfdlgkffaa
open Go Go.RowKit
set_option linter.unusedVariables false
set_option linter.unusedSimpArgs false
set_option maxHeartbeats 8000000 in
theorem c_laws_FnExactVpBytes (aP : VpR) (A_aB : Option Addr) (n_aB c_aB : Nat) (aB : List UInt8) (w : World) (f_aP : okVpR 9223372036854775807 w aP) (f_aB : SlF encB w A_aB n_aB aB) :
    Calls Try.prog 5 #[.agg #[i64 aP.State, .bool aP.Mark, .slice aP.Args.A aP.Args.n aP.Args.c, .slice aP.Part.A aP.Part.n aP.Part.c], .slice A_aB n_aB c_aB] w fun e w' => e = .returned (.bool true) ∧ St w [] [] w' := by
 have nb_aP_Args := f_aP.Args_n
 have nl_aP_Args := f_aP.Args.len
 have nb_aP_Part := f_aP.Part_n
 have nl_aP_Part := f_aP.Part.len
 refine enter (vs := [.agg #[i64 aP.State, .bool aP.Mark, .slice aP.Args.A aP.Args.n aP.Args.c, .slice aP.Part.A aP.Part.n aP.Part.c], .slice A_aB n_aB c_aB]) 133 Try.func5 rfl Try.ntmps5 rfl rfl ?_
 have hs1 := St.init w
 refine WC.sr ?_
 refine WL.bx hs1 rfl (fun b2 _ hs3 => ?_)
 refine WL.run tbk 1 hs3 [] rfl trivial ?_
 refine WL.nil ?_
 refine WC.seq (fun K4 hK4 => ?_)
 refine WC.rr tbk hs3 [] rfl trivial ?_
 refine WC.cD rfl (fun qh5 => ?_) (fun qh5 => ?_)
 ·refine WC.rr tbk hs3 [] rfl trivial ?_
  refine WC.ret ?_
  refine tkR ?_
  clear hK4
  refine retV1 rfl (resV.tmp rfl) ?_
  refine ⟨congrArg Ending.returned ?_, hs3.nil⟩
  rfl
 ·have hn : n_aB ≤ 1048576 := by have h9 := qh5; first | omega | (simp at h9; omega)
  have hbl := f_aB.len
  refine WC.skip ?_
  refine hK4 _ _ ?_
  refine WC.rr tbk hs3 [] rfl trivial ?_
  refine WC.sr ?_
  refine WL.run tbk 2 hs3 [0] rfl ⟨rfl, trivial⟩ ?_
  refine WL.call rfl rfl rfl (Run.call Try.call17 rfl rfl rfl) (c_laws_szVp aP _ _ (okVpR.st0 f_aP hs3) ?_ ?_) ?_
  · first | (first | assumption | omega) | (first | assumption | omega | (simp only [endAct, endGrid, endScr, endTerm, endVp]; first | done | assumption | omega))
  · first | (first | assumption | omega | exact szR_b (by assumption) (by omega) (by first | assumption | omega)) | (first | assumption | omega | (simp only [endAct, endGrid, endScr, endTerm, endVp]; first | done | assumption | omega))
  rintro _ whs6 ⟨rfl, hs6⟩
  replace hs6 := hs3.call0 hs6
  refine ⟨_, rfl, ?_⟩
  refine WL.run tbk 1 hs6 [] rfl trivial ?_
  refine WL.nil ?_
  refine WC.seq (fun K7 hK7 => ?_)
  refine WC.rr tbk hs6 [] rfl trivial ?_
  refine WC.cD rfl (fun qh8 => ?_) (fun qh8 => ?_)
  ·refine WC.rr tbk hs6 [] rfl trivial ?_
   refine WC.ret ?_
   refine tkR ?_
   clear hK7
   refine retV1 rfl (resV.tmp rfl) ?_
   refine ⟨congrArg Ending.returned ?_, hs6.nil⟩
   rfl
  ·simp only [szR] at qh8
   have hb_aP : totVp aP.dat ≤ 1048576 := by split at qh8 <;> omega
   have hsm_aP : smVp 1048576 aP.dat := totVp_sm hb_aP
   have hsB_aP : smVp 1099511627776 aP.dat := totVp_sm (by omega)
   have f_aP := f_aP.to hsB_aP
   have hR := vpBytes_sm (v := aP.dat) (l := aB)
   have hR0B : smVp 1099511627776 (vpBytes aP.dat aB).1 := ⟨Nat.le_trans hR.1.1 (by decide), Nat.le_trans hR.1.2 (by decide)⟩
   have hR4 := hR.2.2.2
   refine WC.skip ?_
   refine hK7 _ _ ?_
   refine WC.sr ?_
   refine WL.run tbk 1 hs6 [0] rfl ⟨rfl, trivial⟩ ?_
   refine WL.call rfl rfl rfl (Run.call Try.call19 rfl rfl rfl) (c_laws_toVp aP _ (okVpR.st0 f_aP hs6)) ?_
   rintro _ whs9 ⟨r10, L111, rfl, hs9, ho12, hd13⟩
   replace hs9 := hs6.callF hs9
   refine ⟨_, rfl, ?_⟩
   replace hs9 := St.back [_] hs9
   refine WL.run tbk 1 hs9 [] rfl trivial ?_
   refine WL.call rfl rfl rfl (Run.call Try.call28 rfl rfl rfl) (c_laws_toByteS _ _ _ _ _ (SlF.st0 f_aB hs9) ?_) ?_
   · first | (first | assumption | rfl | omega) | (first | assumption | omega | (simp only [hd13, endAct, endGrid, endScr, endTerm, endVp]; first | done | assumption | omega))
   rintro _ whs14 ⟨A15, c16, L117, rfl, hs14, ho18⟩
   replace hs14 := hs9.callF hs14
   refine ⟨_, rfl, ?_⟩
   replace hs14 := St.back [_] hs14
   refine WL.call rfl rfl rfl (Run.call Try.call27 rfl rfl rfl) (c_spec_VpBytes r10 _ _ _ _ _ (ownVpR.ok (B := 1099511627776) ho12 (fun p_ hp_ => (hs14.own p_ (List.mem_append_right [_] (List.mem_append_right _ (List.mem_append_left _ hp_)))).1) (by rw [hd13]; assumption)) (SlF.ofOwn ho18 (fun p_ hp_ => (hs14.own p_ (List.mem_append_right [_] (List.mem_append_left _ hp_))).1)) ?_ ?_) ?_
   · first | (first | assumption | rfl | omega) | (first | assumption | omega | (simp only [hd13, endAct, endGrid, endScr, endTerm, endVp]; first | done | assumption | omega))
   · first | (first | assumption | rfl | omega) | (first | assumption | omega | (simp only [hd13, endAct, endGrid, endScr, endTerm, endVp]; first | done | assumption | omega))
   rintro _ whs19 ⟨r020, L021, A122, c123, x124, L125, rfl, hs19, ho26, ho27, hd028, hd129⟩
   try simp only [hd13] at hd028
   try simp only [hd13] at hd129
   replace hs19 := hs14.callF hs19
   refine ⟨_, rfl, ?_⟩
   replace hs19 := St.assoc hs19
   replace hs19 := St.back2 [_] hs19
   have u10 : r020.Args.xs.length ≤ 8 := by have h_ : r020.dat.Args.length ≤ 8 := by { rw [hd028]; exact hR.1.1 }; exact h_
   have u11 : r020.Part.xs.length ≤ 8 := by have h_ : r020.dat.Part.length ≤ 8 := by { rw [hd028]; exact hR.1.2 }; exact h_
   have u12 : x124.length ≤ n_aB := by have h_ := hR.2.2.1; rw [← hd129, List.length_map] at h_; omega
   have u13 : cnts cntEAct x124 ≤ 64 * (tots totAct (x124.map ActR.dat) : Int) := cnts_le cntEAct_le x124
   rw [hd129] at u13
   have u14 : 0 ≤ cnts cntEAct x124 := cnts_nonneg cntEAct_ge x124
   have s1 : ∀ y, y ∈ x124.map ActR.dat → smAct 1099511627776 y := by rw [hd129]; exact fun y hy => Nat.le_trans (hR.2.1 y hy) (by decide)
   refine WL.run tbk 3 hs19 [] rfl trivial ?_
   refine WL.al hs19 Try.zeroValue25 rfl rfl (fun b30 _ hs31 => ?_)
   refine WL.st tbk hs31 0 rfl rfl (fun _ hs32 => ?_)
   refine WL.run tbk 1 hs32 [] rfl trivial ?_
   refine WL.nil ?_
   refine WC.sr ?_
   refine WL.run tbk 1 hs32 [1] rfl ⟨rfl, trivial⟩ ?_
   refine WL.call rfl rfl rfl (Run.call Try.call19 rfl rfl rfl) (c_laws_toVp aP _ (okVpR.st0 f_aP hs32)) ?_
   rintro _ whs33 ⟨r34, L135, rfl, hs33, ho36, hd37⟩
   try simp only [hd13, hd028, hd129] at hd37
   replace hs33 := hs32.callF hs33
   refine ⟨_, rfl, ?_⟩
   replace hs33 := St.back [_, _] hs33
   have v_Args : r34.Args.xs.length ≤ 1048576 := by have h_ : smVp 1048576 r34.dat := by { rw [hd37]; exact hsm_aP }; simp only [smVp, VpR.dat] at h_; omega
   have v_Part : r34.Part.xs.length ≤ 1048576 := by have h_ : smVp 1048576 r34.dat := by { rw [hd37]; exact hsm_aP }; simp only [smVp, VpR.dat] at h_; omega
   refine WL.al hs33 Try.zeroValue25 rfl rfl (fun b38 _ hs39 => ?_)
   refine WL.st tbk hs39 0 rfl rfl (fun _ hs40 => ?_)
   refine WL.nil ?_
   refine WC.sr ?_
   refine WL.run tbk 1 hs40 [] rfl trivial ?_
   refine WL.call rfl rfl rfl (Run.call Try.call28 rfl rfl rfl) (c_laws_toByteS _ _ _ _ _ (SlF.st0 f_aB hs40) ?_) ?_
   · first | (first | assumption | rfl | omega) | (first | assumption | omega | (simp only [hd13, hd028, hd129, hd37, endAct, endGrid, endScr, endTerm, endVp]; first | done | assumption | omega))
   rintro _ whs41 ⟨A42, c43, L144, rfl, hs41, ho45⟩
   replace hs41 := hs40.callF hs41
   refine ⟨_, rfl, ?_⟩
   replace hs41 := St.back [_, _, _] hs41
   refine WL.run tbk 1 hs41 [] rfl trivial ?_
   refine WL.nil ?_
   refine WC.sr ?_
   refine WL.run tbk 2 hs41 [0] rfl ⟨rfl, trivial⟩ ?_
   refine WL.call rfl rfl rfl (Run.call Try.call29 rfl rfl rfl) (c_impl_VpBytes r34 _ _ _ _ _ (ownVpR.ok (B := 1099511627776) ho36 (fun p_ hp_ => (hs41.own p_ (List.mem_append_right [_, _, _] (List.mem_append_right _ (List.mem_append_left _ hp_)))).1) (by rw [hd37]; assumption)) (SlF.ofOwn ho45 (fun p_ hp_ => (hs41.own p_ (List.mem_append_right [_, _, _] (List.mem_append_left _ hp_))).1)) ?_ ?_) ?_
   · first | (first | assumption | rfl | omega) | (first | assumption | omega | (simp only [hd13, hd028, hd129, hd37, endAct, endGrid, endScr, endTerm, endVp]; first | done | assumption | omega))
   · first | (first | assumption | rfl | omega) | (first | assumption | omega | (simp only [hd13, hd028, hd129, hd37, endAct, endGrid, endScr, endTerm, endVp]; first | done | assumption | omega))
   rintro _ whs46 ⟨r047, L048, A149, c150, x151, L152, rfl, hs46, ho53, ho54, hd055, hd156⟩
   try simp only [hd13, hd028, hd129, hd37] at hd055
   try simp only [hd13, hd028, hd129, hd37] at hd156
   replace hs46 := hs41.callF hs46
   refine ⟨_, rfl, ?_⟩
   replace hs46 := St.assoc hs46
   replace hs46 := St.back2 [_, _, _] hs46
   have u20 : r047.Args.xs.length ≤ 8 := by have h_ : r047.dat.Args.length ≤ 8 := by { rw [hd055]; exact hR.1.1 }; exact h_
   have u21 : r047.Part.xs.length ≤ 8 := by have h_ : r047.dat.Part.length ≤ 8 := by { rw [hd055]; exact hR.1.2 }; exact h_
   have u22 : x151.length ≤ n_aB := by have h_ := hR.2.2.1; rw [← hd156, List.length_map] at h_; omega
   have u23 : cnts cntEAct x151 ≤ 64 * (tots totAct (x151.map ActR.dat) : Int) := cnts_le cntEAct_le x151
   rw [hd156] at u23
   have u24 : 0 ≤ cnts cntEAct x151 := cnts_nonneg cntEAct_ge x151
   have s2 : ∀ y, y ∈ x151.map ActR.dat → smAct 1099511627776 y := by rw [hd156]; exact fun y hy => Nat.le_trans (hR.2.1 y hy) (by decide)
   refine WL.run tbk 3 hs46 [] rfl trivial ?_
   refine WL.al hs46 Try.zeroValue25 rfl rfl (fun b57 _ hs58 => ?_)
   refine WL.st tbk hs58 0 rfl rfl (fun _ hs59 => ?_)
   refine WL.run tbk 1 hs59 [] rfl trivial ?_
   refine WL.nil ?_
   refine WC.seq (fun K60 hK60 => ?_)
   refine WC.sr ?_
   refine WL.run tbk 2 hs59 [0, 2] rfl ⟨rfl, rfl, trivial⟩ ?_
   refine WL.call rfl rfl rfl (Run.call Try.call21 rfl rfl rfl) (c_laws_eqVp r047 r020 _ (ownVpR.ok (B := 1099511627776) ho53 (fun p_ hp_ => (hs59.own p_ (List.mem_append_right [_, _, _, _] (List.mem_append_left _ hp_))).1) (by rw [hd055]; assumption)) (ownVpR.ok (B := 1099511627776) ho26 (fun p_ hp_ => (hs59.own p_ (List.mem_append_right [_, _, _, _] (List.mem_append_right _ (List.mem_append_right _ (List.mem_append_right _ (List.mem_append_right _ (List.mem_append_left _ hp_))))))).1) (by rw [hd028]; assumption)) ?_) ?_
   · first | (first | assumption | rfl | omega) | (first | assumption | omega | (simp only [hd13, hd028, hd129, hd37, hd055, hd156, endAct, endGrid, endScr, endTerm, endVp]; first | done | assumption | omega))
   rintro _ whs61 ⟨rfl, hs61⟩
   replace hs61 := hs59.call0 hs61
   refine ⟨_, rfl, ?_⟩
   refine WL.run tbk 2 hs61 [] rfl trivial ?_
   apply WL.gO 4 Acts.nil hs61 rfl
   ·intro g62 J63
    have qg62 := g62
    try simp only [bf, within_iff, within_not] at qg62
    refine WL.runA tbk 2 (Acts.nil.cons (j := 4) rfl g62) hs61 [] rfl trivial ?_
    refine WL.call (wantF rfl g62) rfl rfl (Run.call Try.call30 rfl rfl rfl) (c_laws_eqActS _ _ _ _ _ _ _ _ _ (OwnN.ok ho54 (fun p_ hp_ => (hs61.own p_ (List.mem_append_right [_, _, _, _] (List.mem_append_right _ (List.mem_append_left _ hp_)))).1) (fun y Li hy h3 hl => h3.ok hl (by have h9_ := List.mem_map_of_mem (f := ActR.dat) hy; first | exact s1 _ h9_ | exact s2 _ h9_ | exact s3 _ h9_ | exact sM _ h9_))) (OwnN.ok ho27 (fun p_ hp_ => (hs61.own p_ (List.mem_append_right [_, _, _, _] (List.mem_append_right _ (List.mem_append_right _ (List.mem_append_right _ (List.mem_append_right _ (List.mem_append_right _ (List.mem_append_left _ hp_)))))))).1) (fun y Li hy h3 hl => h3.ok hl (by have h9_ := List.mem_map_of_mem (f := ActR.dat) hy; first | exact s1 _ h9_ | exact s2 _ h9_ | exact s3 _ h9_ | exact sM _ h9_))) ?_ ?_) ?_
    · first | (first | assumption | rfl | omega) | (first | assumption | omega | (simp only [hd13, hd028, hd129, hd37, hd055, hd156, endAct, endGrid, endScr, endTerm, endVp]; first | done | assumption | omega))
    · first | (first | assumption | rfl | omega) | (first | assumption | omega | (simp only [hd13, hd028, hd129, hd37, hd055, hd156, endAct, endGrid, endScr, endTerm, endVp]; first | done | assumption | omega))
    rintro _ whs64 ⟨rfl, hs64⟩
    replace hs64 := hs61.call0 hs64
    refine ⟨_, rfl, ?_⟩
    refine WL.runA tbk 1 (Acts.nil.cons (j := 4) rfl g62) hs64 [] rfl trivial ?_
    exact WL.eO 4 Acts.nil J63 hs64 g62 rfl rfl
   ·intro _ hs65
    refine WL.nil ?_
    refine WC.condF rfl (by first | (simp; done) | (simp; omega) | (simp [hd13, hd028, hd129, hd37, hd055, hd156]; done) | (simp only [endAct, endGrid, endScr, endTerm, endVp]; simp; omega)) ?_
    refine WC.skip ?_
    refine hK60 _ _ ?_
    refine WC.seq (fun K67 hK67 => ?_)
    refine WC.seq (fun K68 hK68 => ?_)
    refine WC.regionH2 (fun w' => St _ _ _ w') (fun w' => St _ _ _ w') mixed (St.drew hs65) (St.drew hs65) (fun whs69 hs69 => ?_)
    replace hs69 : St _ _ _ _ := hs69
    refine WH.take 0 rfl (by kernel_rfl) rfl rfl rfl hs69 (fun w_ hs_ => (Run.loadLA (hs_ : St _ _ _ _) 1 Try.isAgg25 Try.sizeOf25 rfl rfl rfl rfl rfl)) ?_
    refine WH.take 1 rfl (by kernel_rfl) rfl rfl rfl hs69 (fun w_ hs_ => (Run.loadLA (hs_ : St _ _ _ _) 3 Try.isAgg41 Try.sizeOf41 rfl rfl rfl rfl rfl)) ?_
    refine WH.all [2] (by kernel_rfl) rfl (WHs.cons (i := 2) rfl ?_ WHs.nil)
    refine WL.call rfl rfl rfl (Run.call Try.call19 rfl rfl rfl) (c_laws_toVp aP _ (okVpR.st0 f_aP hs69)) ?_
    rintro _ whs70 ⟨r71, L172, rfl, hs70, ho73, hd74⟩
    try simp only [hd13, hd028, hd129, hd37, hd055, hd156] at hd74
    replace hs70 := hs69.callF hs70
    refine ⟨_, rfl, ?_⟩
    replace hs70 := St.back [_, _, _, _] hs70
    refine WL.nil ⟨(St.drop (St.perm hs70 (L' := L172 ++ _) (perm_front (A := [_, _, _, _]) (List.Perm.refl _))) (List.sublist_append_right L172 _)), ?_⟩
    refine WH.all [3] (by kernel_rfl) rfl (WHs.cons (i := 3) rfl ?_ WHs.nil)
    refine WL.call rfl rfl rfl (Run.call Try.call21 rfl rfl rfl) (c_laws_eqVp r34 r71 _ (ownVpR.ok (B := 1099511627776) ho36 (fun p_ hp_ => (hs70.own p_ (List.mem_append_right [_, _, _, _] (List.mem_append_right _ (List.mem_append_right _ (List.mem_append_right _ (List.mem_append_right _ (List.mem_append_left _ hp_))))))).1) (by rw [hd37]; assumption)) (ownVpR.ok (B := 1099511627776) ho73 (fun p_ hp_ => (hs70.own p_ (List.mem_append_right [_, _, _, _] (List.mem_append_left _ hp_))).1) (by rw [hd74]; assumption)) ?_) ?_
    · first | (first | assumption | rfl | omega) | (first | assumption | omega | (simp only [hd13, hd028, hd129, hd37, hd055, hd156, hd74, endAct, endGrid, endScr, endTerm, endVp]; first | done | assumption | omega))
    rintro _ whs75 ⟨rfl, hs75⟩
    replace hs75 := hs70.call0 hs75
    refine ⟨_, rfl, ?_⟩
    refine WL.nil ⟨(St.drop (St.perm hs75 (L' := L172 ++ _) (perm_front (A := [_, _, _, _]) (List.Perm.refl _))) (List.sublist_append_right L172 _)), ?_⟩
    refine WH.take 4 rfl (by kernel_rfl) rfl rfl rfl (St.drop (St.perm hs75 (L' := L172 ++ _) (perm_front (A := [_, _, _, _]) (List.Perm.refl _))) (List.sublist_append_right L172 _)) (fun w_ hs_ => (Run.not rfl rfl)) ?_
    refine WH.done (by kernel_rfl) ?_
    refine hK68 _ _ ?_
    refine WC.condF rfl (by first | (simp; done) | (simp; omega) | (simp [hd13, hd028, hd129, hd37, hd055, hd156, hd74]; done) | (simp only [endAct, endGrid, endScr, endTerm, endVp]; simp; omega)) ?_
    refine WC.skip ?_
    refine hK67 _ _ ?_
    refine WC.seq (fun K77 hK77 => ?_)
    refine WC.sr ?_
    refine WL.run tbk 2 hs75 [] rfl trivial ?_
    refine WL.call rfl rfl rfl (Run.call Try.call28 rfl rfl rfl) (c_laws_toByteS _ _ _ _ _ (SlF.st0 f_aB hs75) ?_) ?_
    · first | (first | assumption | rfl | omega) | (first | assumption | omega | (simp only [hd13, hd028, hd129, hd37, hd055, hd156, hd74, endAct, endGrid, endScr, endTerm, endVp]; first | done | assumption | omega))
    rintro _ whs78 ⟨A79, c80, L181, rfl, hs78, ho82⟩
    replace hs78 := hs75.callF hs78
    refine ⟨_, rfl, ?_⟩
    replace hs78 := St.back [_, _, _, _] hs78
    refine WL.call rfl rfl rfl (Run.call Try.call31 rfl rfl rfl) (c_laws_eqByteS _ _ _ _ _ _ _ _ _ (SlF.ofOwn ho45 (fun p_ hp_ => (hs78.own p_ (List.mem_append_right [_, _, _, _] (List.mem_append_right _ (List.mem_append_right _ (List.mem_append_right _ (List.mem_append_right _ (List.mem_append_left _ hp_))))))).1)) (SlF.ofOwn ho82 (fun p_ hp_ => (hs78.own p_ (List.mem_append_right [_, _, _, _] (List.mem_append_left _ hp_))).1)) ?_ ?_) ?_
    · first | (first | assumption | rfl | omega) | (first | assumption | omega | (simp only [hd13, hd028, hd129, hd37, hd055, hd156, hd74, endAct, endGrid, endScr, endTerm, endVp]; first | done | assumption | omega))
    · first | (first | assumption | rfl | omega) | (first | assumption | omega | (simp only [hd13, hd028, hd129, hd37, hd055, hd156, hd74, endAct, endGrid, endScr, endTerm, endVp]; first | done | assumption | omega))
    rintro _ whs83 ⟨rfl, hs83⟩
    replace hs83 := hs78.call0 hs83
    refine ⟨_, rfl, ?_⟩
    refine WL.run tbk 1 hs83 [] rfl trivial ?_
    refine WL.nil ?_
    refine WC.condF rfl (by first | (simp; done) | (simp; omega) | (simp [hd13, hd028, hd129, hd37, hd055, hd156, hd74]; done) | (simp only [endAct, endGrid, endScr, endTerm, endVp]; simp; omega)) ?_
    refine WC.skip ?_
    refine hK77 _ _ ?_
    refine WC.rr tbk hs83 [] rfl trivial ?_
    refine WC.sr ?_
    refine WL.run tbk 2 hs83 [1] rfl ⟨rfl, trivial⟩ ?_
    refine WL.call rfl rfl rfl (Run.call Try.call23 rfl rfl rfl) (c_laws_markVp r34 _ _ _ ho36 (fun p_ hp_ => (hs83.own p_ (List.mem_append_right [_, _, _, _] (List.mem_append_right _ (List.mem_append_right _ (List.mem_append_right _ (List.mem_append_right _ (List.mem_append_right _ (List.mem_append_left _ hp_)))))))).1) (St.nodupL (St.perm hs83 (L' := L135 ++ _) (perm_front (A := [_, _, _, _]) (perm_front (A := L181) (perm_front (A := L172) (perm_front (A := L048) (perm_front (A := L152) (perm_front (A := L144) (List.Perm.refl _))))))))) ?_ ?_) ?_
    · first | (first | assumption | omega) | (first | assumption | omega | (simp only [hd13, hd028, hd129, hd37, hd055, hd156, hd74, endAct, endGrid, endScr, endTerm, endVp]; first | done | assumption | omega))
    · first | (first | assumption | omega | (simp only [endVp]; omega)) | (first | assumption | omega | (simp only [hd13, hd028, hd129, hd37, hd055, hd156, hd74, endAct, endGrid, endScr, endTerm, endVp]; first | done | assumption | omega))
    rintro _ whs85 ⟨L186, rfl, hs85, ho87⟩
    replace hs85 := St.lend (St.perm hs83 (L' := L135 ++ _) (perm_front (A := [_, _, _, _]) (perm_front (A := L181) (perm_front (A := L172) (perm_front (A := L048) (perm_front (A := L152) (perm_front (A := L144) (List.Perm.refl _)))))))) hs85
    refine ⟨_, rfl, ?_⟩
    replace hs85 := St.back [_, _, _, _] hs85
    refine WL.run tbk 1 hs85 [] rfl trivial ?_
    refine WL.nil ?_
    refine WC.sr ?_
    refine WL.run tbk 2 hs85 [] rfl trivial ?_
    refine WL.call rfl rfl rfl (Run.call Try.call32 rfl rfl rfl) (c_laws_markByteS _ _ _ _ _ ho45 (fun p_ hp_ => (hs85.own p_ (List.mem_append_right [_, _, _, _] (List.mem_append_right _ (List.mem_append_right _ (List.mem_append_right _ (List.mem_append_right _ (List.mem_append_right _ (List.mem_append_left _ hp_)))))))).1) ?_ ?_ ?_) ?_
    · first | (first | assumption | rfl | omega) | (first | assumption | omega | (simp only [hd13, hd028, hd129, hd37, hd055, hd156, hd74, endAct, endGrid, endScr, endTerm, endVp]; first | done | assumption | omega))
    · first | (first | assumption | rfl | omega) | (first | assumption | omega | (simp only [hd13, hd028, hd129, hd37, hd055, hd156, hd74, endAct, endGrid, endScr, endTerm, endVp]; first | done | assumption | omega))
    · first | (first | assumption | rfl | omega) | (first | assumption | omega | (simp only [hd13, hd028, hd129, hd37, hd055, hd156, hd74, endAct, endGrid, endScr, endTerm, endVp]; first | done | assumption | omega))
    rintro _ whs88 ⟨L189, rfl, hs88, ho90⟩
    replace hs88 := St.lend (St.perm hs85 (L' := L144 ++ _) (perm_front (A := [_, _, _, _]) (perm_front (A := L186) (perm_front (A := L181) (perm_front (A := L172) (perm_front (A := L048) (perm_front (A := L152) (List.Perm.refl _)))))))) hs88
    refine ⟨_, rfl, ?_⟩
    replace hs88 := St.back [_, _, _, _] hs88
    refine WL.run tbk 1 hs88 [] rfl trivial ?_
    refine WL.nil ?_
    refine WC.seq (fun K91 hK91 => ?_)
    refine WC.sr ?_
    refine WL.run tbk 3 hs88 [] rfl trivial ?_
    apply WL.gO 4 Acts.nil hs88 rfl
    ·intro g92 J93
     have qg92 := g92
     try simp only [bf, within_iff, within_not] at qg92
     refine WL.runA tbk 2 (Acts.nil.cons (j := 2) rfl g92) hs88 [0, 2] rfl ⟨rfl, rfl, trivial⟩ ?_
     refine WL.call (wantF rfl g92) rfl rfl (Run.call Try.call21 rfl rfl rfl) (c_laws_eqVp r047 r020 _ (ownVpR.ok (B := 1099511627776) ho53 (fun p_ hp_ => (hs88.own p_ (List.mem_append_right [_, _, _, _] (List.mem_append_right _ (List.mem_append_right _ (List.mem_append_right _ (List.mem_append_right _ (List.mem_append_left _ hp_))))))).1) (by rw [hd055]; assumption)) (ownVpR.ok (B := 1099511627776) ho26 (fun p_ hp_ => (hs88.own p_ (List.mem_append_right [_, _, _, _] (List.mem_append_right _ (List.mem_append_right _ (List.mem_append_right _ (List.mem_append_right _ (List.mem_append_right _ (List.mem_append_right _ (List.mem_append_left _ hp_))))))))).1) (by rw [hd028]; assumption)) ?_) ?_
     · first | (first | assumption | rfl | omega) | (first | assumption | omega | (simp only [hd13, hd028, hd129, hd37, hd055, hd156, hd74, endAct, endGrid, endScr, endTerm, endVp]; first | done | assumption | omega))
     rintro _ whs94 ⟨rfl, hs94⟩
     replace hs94 := hs88.call0 hs94
     refine ⟨_, rfl, ?_⟩
     refine WL.runA tbk 1 (Acts.nil.cons (j := 2) rfl g92) hs94 [] rfl trivial ?_
     exact WL.eO 4 Acts.nil J93 hs94 g92 rfl rfl
    ·intro _ hs95
     refine WL.run tbk 1 hs95 [] rfl trivial ?_
     apply WL.gO 4 Acts.nil hs95 rfl
     ·intro g96 J97
      have qg96 := g96
      try simp only [bf, within_iff, within_not] at qg96
      refine WL.runA tbk 2 (Acts.nil.cons (j := 8) rfl g96) hs95 [] rfl trivial ?_
      refine WL.call (wantF rfl g96) rfl rfl (Run.call Try.call30 rfl rfl rfl) (c_laws_eqActS _ _ _ _ _ _ _ _ _ (OwnN.ok ho54 (fun p_ hp_ => (hs95.own p_ (List.mem_append_right [_, _, _, _] (List.mem_append_right _ (List.mem_append_right _ (List.mem_append_right _ (List.mem_append_right _ (List.mem_append_right _ (List.mem_append_left _ hp_)))))))).1) (fun y Li hy h3 hl => h3.ok hl (by have h9_ := List.mem_map_of_mem (f := ActR.dat) hy; first | exact s1 _ h9_ | exact s2 _ h9_ | exact s3 _ h9_ | exact sM _ h9_))) (OwnN.ok ho27 (fun p_ hp_ => (hs95.own p_ (List.mem_append_right [_, _, _, _] (List.mem_append_right _ (List.mem_append_right _ (List.mem_append_right _ (List.mem_append_right _ (List.mem_append_right _ (List.mem_append_right _ (List.mem_append_right _ (List.mem_append_left _ hp_)))))))))).1) (fun y Li hy h3 hl => h3.ok hl (by have h9_ := List.mem_map_of_mem (f := ActR.dat) hy; first | exact s1 _ h9_ | exact s2 _ h9_ | exact s3 _ h9_ | exact sM _ h9_))) ?_ ?_) ?_
      · first | (first | assumption | rfl | omega) | (first | assumption | omega | (simp only [hd13, hd028, hd129, hd37, hd055, hd156, hd74, endAct, endGrid, endScr, endTerm, endVp]; first | done | assumption | omega))
      · first | (first | assumption | rfl | omega) | (first | assumption | omega | (simp only [hd13, hd028, hd129, hd37, hd055, hd156, hd74, endAct, endGrid, endScr, endTerm, endVp]; first | done | assumption | omega))
      rintro _ whs98 ⟨rfl, hs98⟩
      replace hs98 := hs95.call0 hs98
      refine ⟨_, rfl, ?_⟩
      refine WL.runA tbk 1 (Acts.nil.cons (j := 8) rfl g96) hs98 [] rfl trivial ?_
      exact WL.eO 4 Acts.nil J97 hs98 g96 rfl rfl
     ·intro _ hs99
      refine WL.nil ?_
      refine WC.condF rfl (by first | (simp; done) | (simp; omega) | (simp [hd13, hd028, hd129, hd37, hd055, hd156, hd74]; done) | (simp only [endAct, endGrid, endScr, endTerm, endVp]; simp; omega)) ?_
      refine WC.skip ?_
      refine hK91 _ _ ?_
      refine WC.rr tbk hs99 [] rfl trivial ?_
      refine WC.sr ?_
      refine WL.run tbk 2 hs99 [0] rfl ⟨rfl, trivial⟩ ?_
      refine WL.call rfl rfl rfl (Run.call Try.call23 rfl rfl rfl) (c_laws_markVp r047 _ _ _ ho53 (fun p_ hp_ => (hs99.own p_ (List.mem_append_right [_, _, _, _] (List.mem_append_right _ (List.mem_append_right _ (List.mem_append_right _ (List.mem_append_right _ (List.mem_append_left _ hp_))))))).1) (St.nodupL (St.perm hs99 (L' := L048 ++ _) (perm_front (A := [_, _, _, _]) (perm_front (A := L189) (perm_front (A := L186) (perm_front (A := L181) (perm_front (A := L172) (List.Perm.refl _)))))))) ?_ ?_) ?_
      · first | (first | assumption | omega) | (first | assumption | omega | (simp only [hd13, hd028, hd129, hd37, hd055, hd156, hd74, endAct, endGrid, endScr, endTerm, endVp]; first | done | assumption | omega))
      · first | (first | assumption | omega | (simp only [endVp]; omega)) | (first | assumption | omega | (simp only [hd13, hd028, hd129, hd37, hd055, hd156, hd74, endAct, endGrid, endScr, endTerm, endVp]; first | done | assumption | omega))
      rintro _ whs101 ⟨L1102, rfl, hs101, ho103⟩
      replace hs101 := St.lend (St.perm hs99 (L' := L048 ++ _) (perm_front (A := [_, _, _, _]) (perm_front (A := L189) (perm_front (A := L186) (perm_front (A := L181) (perm_front (A := L172) (List.Perm.refl _))))))) hs101
      refine ⟨_, rfl, ?_⟩
      replace hs101 := St.back [_, _, _, _] hs101
      refine WL.run tbk 1 hs101 [] rfl trivial ?_
      refine WL.nil ?_
      refine WC.sr ?_
      refine WL.run tbk 2 hs101 [] rfl trivial ?_
      refine WL.call rfl rfl rfl (Run.call Try.call33 rfl rfl rfl) (c_laws_markActS _ _ _ _ _ ho54 (fun p_ hp_ => (hs101.own p_ (List.mem_append_right [_, _, _, _] (List.mem_append_right _ (List.mem_append_right _ (List.mem_append_right _ (List.mem_append_right _ (List.mem_append_right _ (List.mem_append_left _ hp_)))))))).1) (St.nodupL (St.perm hs101 (L' := L152 ++ _) (perm_front (A := [_, _, _, _]) (perm_front (A := L1102) (perm_front (A := L189) (perm_front (A := L186) (perm_front (A := L181) (perm_front (A := L172) (List.Perm.refl _))))))))) ?_ ?_ ?_) ?_
      · first | (first | assumption | omega) | (first | assumption | omega | (simp only [hd13, hd028, hd129, hd37, hd055, hd156, hd74, endAct, endGrid, endScr, endTerm, endVp]; first | done | assumption | omega))
      · first | (first | assumption | omega) | (first | assumption | omega | (simp only [hd13, hd028, hd129, hd37, hd055, hd156, hd74, endAct, endGrid, endScr, endTerm, endVp]; first | done | assumption | omega))
      · first | (first | assumption | omega) | (first | assumption | omega | (simp only [hd13, hd028, hd129, hd37, hd055, hd156, hd74, endAct, endGrid, endScr, endTerm, endVp]; first | done | assumption | omega))
      rintro _ whs104 ⟨L1105, rfl, hs104, ho106⟩
      replace hs104 := St.lend (St.perm hs101 (L' := L152 ++ _) (perm_front (A := [_, _, _, _]) (perm_front (A := L1102) (perm_front (A := L189) (perm_front (A := L186) (perm_front (A := L181) (perm_front (A := L172) (List.Perm.refl _)))))))) hs104
      refine ⟨_, rfl, ?_⟩
      replace hs104 := St.back [_, _, _, _] hs104
      have sM : ∀ y, y ∈ (mrks mkEAct cntEAct (endVp 1 r047) x151).map ActR.dat → smAct 1099511627776 y := fun y hy => by { obtain ⟨z, hz, rfl⟩ := List.mem_map.1 hy; exact mrks_all (P := fun x => smAct 1099511627776 x.dat) (fun _ _ h9 => mkEAct_sm h9) (fun x hx => s2 _ (List.mem_map_of_mem hx)) _ hz }
      refine WL.run tbk 1 hs104 [] rfl trivial ?_
      refine WL.nil ?_
      refine WC.rr tbk hs104 [] rfl trivial ?_
      refine WC.sr ?_
      refine WL.run tbk 2 hs104 [0] rfl ⟨rfl, trivial⟩ ?_
      refine WL.call rfl rfl rfl (Run.call Try.call25 rfl rfl rfl) (c_laws_heldVp _ _ _ (ownVpR.ok (B := 1099511627776) ho103 (fun p_ hp_ => (hs104.own p_ (List.mem_append_right [_, _, _, _] (List.mem_append_right _ (List.mem_append_left _ hp_)))).1) (markVp_sm (by rw [hd055]; assumption))) ?_ ?_) ?_
      · first | (first | assumption | omega) | (first | assumption | omega | (simp only [hd13, hd028, hd129, hd37, hd055, hd156, hd74, endAct, endGrid, endScr, endTerm, endVp]; first | done | assumption | omega))
      · first | (first | assumption | omega | (simp only [endVp]; omega)) | (first | assumption | omega | (simp only [hd13, hd028, hd129, hd37, hd055, hd156, hd74, endAct, endGrid, endScr, endTerm, endVp]; first | done | assumption | omega))
      rintro _ whs107 ⟨rfl, hs107⟩
      replace hs107 := hs104.call0 hs107
      refine ⟨_, rfl, ?_⟩
      refine WL.run tbk 1 hs107 [] rfl trivial ?_
      refine WL.nil ?_
      refine WC.seq (fun K108 hK108 => ?_)
      refine WC.rr tbk hs107 [] rfl trivial ?_
      refine WC.condF rfl (by first | (simp; done) | (simp; omega) | (simp [hd13, hd028, hd129, hd37, hd055, hd156, hd74]; done) | (simp only [endAct, endGrid, endScr, endTerm, endVp]; simp; omega)) ?_
      refine WC.skip ?_
      refine hK108 _ _ ?_
      refine WC.sr ?_
      refine WL.run tbk 2 hs107 [] rfl trivial ?_
      refine WL.call rfl rfl rfl (Run.call Try.call34 rfl rfl rfl) (c_laws_heldActS _ _ _ _ _ _ (OwnN.ok ho106 (fun p_ hp_ => (hs107.own p_ (List.mem_append_right [_, _, _, _] (List.mem_append_left _ hp_))).1) (fun y Li hy h3 hl => h3.ok hl (by have h9_ := List.mem_map_of_mem (f := ActR.dat) hy; first | exact s1 _ h9_ | exact s2 _ h9_ | exact s3 _ h9_ | exact sM _ h9_))) ?_ ?_ ?_) ?_
      · first | (first | assumption | omega) | (first | assumption | omega | (simp only [hd13, hd028, hd129, hd37, hd055, hd156, hd74, endAct, endGrid, endScr, endTerm, endVp]; first | done | assumption | omega))
      · first | (first | assumption | omega) | (first | assumption | omega | (simp only [hd13, hd028, hd129, hd37, hd055, hd156, hd74, endAct, endGrid, endScr, endTerm, endVp]; first | done | assumption | omega))
      · first | (first | assumption | omega) | (first | assumption | omega | (simp only [hd13, hd028, hd129, hd37, hd055, hd156, hd74, endAct, endGrid, endScr, endTerm, endVp]; first | done | assumption | omega))
      rintro _ whs110 ⟨rfl, hs110⟩
      replace hs110 := hs107.call0 hs110
      refine ⟨_, rfl, ?_⟩
      refine WL.run tbk 1 hs110 [] rfl trivial ?_
      refine WL.nil ?_
      refine WC.seq (fun K111 hK111 => ?_)
      refine WC.rr tbk hs110 [] rfl trivial ?_
      refine WC.condF rfl (by first | (simp; done) | (simp; omega) | (simp [hd13, hd028, hd129, hd37, hd055, hd156, hd74]; done) | (simp only [endAct, endGrid, endScr, endTerm, endVp]; simp; omega)) ?_
      refine WC.skip ?_
      refine hK111 _ _ ?_
      refine WC.seq (fun K113 hK113 => ?_)
      refine WC.rr tbk hs110 [] rfl trivial ?_
      refine WC.condF rfl (by first | (simp; done) | (simp; omega) | (simp [hd13, hd028, hd129, hd37, hd055, hd156, hd74]; done) | (simp only [endAct, endGrid, endScr, endTerm, endVp]; simp; omega)) ?_
      refine WC.skip ?_
      refine hK113 _ _ ?_
      refine WC.sr ?_
      refine WL.run tbk 1 hs110 [3] rfl ⟨rfl, trivial⟩ ?_
      refine WL.call rfl rfl rfl (Run.call Try.call19 rfl rfl rfl) (c_laws_toVp aP _ (okVpR.st0 f_aP hs110)) ?_
      rintro _ whs115 ⟨r116, L1117, rfl, hs115, ho118, hd119⟩
      try simp only [hd13, hd028, hd129, hd37, hd055, hd156, hd74] at hd119
      replace hs115 := hs110.callF hs115
      refine ⟨_, rfl, ?_⟩
      replace hs115 := St.back [_, _, _, _] hs115
      refine WL.run tbk 1 hs115 [] rfl trivial ?_
      refine WL.call rfl rfl rfl (Run.call Try.call28 rfl rfl rfl) (c_laws_toByteS _ _ _ _ _ (SlF.st0 f_aB hs115) ?_) ?_
      · first | (first | assumption | rfl | omega) | (first | assumption | omega | (simp only [hd13, hd028, hd129, hd37, hd055, hd156, hd74, hd119, endAct, endGrid, endScr, endTerm, endVp]; first | done | assumption | omega))
      rintro _ whs120 ⟨A121, c122, L1123, rfl, hs120, ho124⟩
      replace hs120 := hs115.callF hs120
      refine ⟨_, rfl, ?_⟩
      replace hs120 := St.back [_, _, _, _] hs120
      refine WL.call rfl rfl rfl (Run.call Try.call29 rfl rfl rfl) (c_impl_VpBytes r116 _ _ _ _ _ (ownVpR.ok (B := 1099511627776) ho118 (fun p_ hp_ => (hs120.own p_ (List.mem_append_right [_, _, _, _] (List.mem_append_right _ (List.mem_append_left _ hp_)))).1) (by rw [hd119]; assumption)) (SlF.ofOwn ho124 (fun p_ hp_ => (hs120.own p_ (List.mem_append_right [_, _, _, _] (List.mem_append_left _ hp_))).1)) ?_ ?_) ?_
      · first | (first | assumption | rfl | omega) | (first | assumption | omega | (simp only [hd13, hd028, hd129, hd37, hd055, hd156, hd74, hd119, endAct, endGrid, endScr, endTerm, endVp]; first | done | assumption | omega))
      · first | (first | assumption | rfl | omega) | (first | assumption | omega | (simp only [hd13, hd028, hd129, hd37, hd055, hd156, hd74, hd119, endAct, endGrid, endScr, endTerm, endVp]; first | done | assumption | omega))
      rintro _ whs125 ⟨r0126, L0127, A1128, c1129, x1130, L1131, rfl, hs125, ho132, ho133, hd0134, hd1135⟩
      try simp only [hd13, hd028, hd129, hd37, hd055, hd156, hd74, hd119] at hd0134
      try simp only [hd13, hd028, hd129, hd37, hd055, hd156, hd74, hd119] at hd1135
      replace hs125 := hs120.callF hs125
      refine ⟨_, rfl, ?_⟩
      replace hs125 := St.assoc hs125
      replace hs125 := St.back2 [_, _, _, _] hs125
      have u30 : r0126.Args.xs.length ≤ 8 := by have h_ : r0126.dat.Args.length ≤ 8 := by { rw [hd0134]; exact hR.1.1 }; exact h_
      have u31 : r0126.Part.xs.length ≤ 8 := by have h_ : r0126.dat.Part.length ≤ 8 := by { rw [hd0134]; exact hR.1.2 }; exact h_
      have u32 : x1130.length ≤ n_aB := by have h_ := hR.2.2.1; rw [← hd1135, List.length_map] at h_; omega
      have u33 : cnts cntEAct x1130 ≤ 64 * (tots totAct (x1130.map ActR.dat) : Int) := cnts_le cntEAct_le x1130
      rw [hd1135] at u33
      have u34 : 0 ≤ cnts cntEAct x1130 := cnts_nonneg cntEAct_ge x1130
      have s3 : ∀ y, y ∈ x1130.map ActR.dat → smAct 1099511627776 y := by rw [hd1135]; exact fun y hy => Nat.le_trans (hR.2.1 y hy) (by decide)
      refine WL.run tbk 3 hs125 [] rfl trivial ?_
      refine WL.al hs125 Try.zeroValue25 rfl rfl (fun b136 _ hs137 => ?_)
      refine WL.st tbk hs137 0 rfl rfl (fun _ hs138 => ?_)
      refine WL.run tbk 1 hs138 [] rfl trivial ?_
      refine WL.nil ?_
      refine WC.seq (fun K139 hK139 => ?_)
      refine WC.sr ?_
      refine WL.run tbk 2 hs138 [0, 3] rfl ⟨rfl, rfl, trivial⟩ ?_
      refine WL.call rfl rfl rfl (Run.call Try.call21 rfl rfl rfl) (c_laws_eqVp r0126 r020 _ (ownVpR.ok (B := 1099511627776) ho132 (fun p_ hp_ => (hs138.own p_ (List.mem_append_right [_, _, _, _, _] (List.mem_append_left _ hp_))).1) (by rw [hd0134]; assumption)) (ownVpR.ok (B := 1099511627776) ho26 (fun p_ hp_ => (hs138.own p_ (List.mem_append_right [_, _, _, _, _] (List.mem_append_right _ (List.mem_append_right _ (List.mem_append_right _ (List.mem_append_right _ (List.mem_append_right _ (List.mem_append_right _ (List.mem_append_right _ (List.mem_append_right _ (List.mem_append_right _ (List.mem_append_right _ (List.mem_append_left _ hp_))))))))))))).1) (by rw [hd028]; assumption)) ?_) ?_
      · first | (first | assumption | rfl | omega) | (first | assumption | omega | (simp only [hd13, hd028, hd129, hd37, hd055, hd156, hd74, hd119, hd0134, hd1135, endAct, endGrid, endScr, endTerm, endVp]; first | done | assumption | omega))
      rintro _ whs140 ⟨rfl, hs140⟩
      replace hs140 := hs138.call0 hs140
      refine ⟨_, rfl, ?_⟩
      refine WL.run tbk 2 hs140 [] rfl trivial ?_
      apply WL.gO 4 Acts.nil hs140 rfl
      ·intro g141 J142
       have qg141 := g141
       try simp only [bf, within_iff, within_not] at qg141
       refine WL.runA tbk 2 (Acts.nil.cons (j := 4) rfl g141) hs140 [] rfl trivial ?_
       refine WL.call (wantF rfl g141) rfl rfl (Run.call Try.call30 rfl rfl rfl) (c_laws_eqActS _ _ _ _ _ _ _ _ _ (OwnN.ok ho133 (fun p_ hp_ => (hs140.own p_ (List.mem_append_right [_, _, _, _, _] (List.mem_append_right _ (List.mem_append_left _ hp_)))).1) (fun y Li hy h3 hl => h3.ok hl (by have h9_ := List.mem_map_of_mem (f := ActR.dat) hy; first | exact s1 _ h9_ | exact s2 _ h9_ | exact s3 _ h9_ | exact sM _ h9_))) (OwnN.ok ho27 (fun p_ hp_ => (hs140.own p_ (List.mem_append_right [_, _, _, _, _] (List.mem_append_right _ (List.mem_append_right _ (List.mem_append_right _ (List.mem_append_right _ (List.mem_append_right _ (List.mem_append_right _ (List.mem_append_right _ (List.mem_append_right _ (List.mem_append_right _ (List.mem_append_right _ (List.mem_append_right _ (List.mem_append_left _ hp_)))))))))))))).1) (fun y Li hy h3 hl => h3.ok hl (by have h9_ := List.mem_map_of_mem (f := ActR.dat) hy; first | exact s1 _ h9_ | exact s2 _ h9_ | exact s3 _ h9_ | exact sM _ h9_))) ?_ ?_) ?_
       · first | (first | assumption | rfl | omega) | (first | assumption | omega | (simp only [hd13, hd028, hd129, hd37, hd055, hd156, hd74, hd119, hd0134, hd1135, endAct, endGrid, endScr, endTerm, endVp]; first | done | assumption | omega))
       · first | (first | assumption | rfl | omega) | (first | assumption | omega | (simp only [hd13, hd028, hd129, hd37, hd055, hd156, hd74, hd119, hd0134, hd1135, endAct, endGrid, endScr, endTerm, endVp]; first | done | assumption | omega))
       rintro _ whs143 ⟨rfl, hs143⟩
       replace hs143 := hs140.call0 hs143
       refine ⟨_, rfl, ?_⟩
       refine WL.runA tbk 1 (Acts.nil.cons (j := 4) rfl g141) hs143 [] rfl trivial ?_
       exact WL.eO 4 Acts.nil J142 hs143 g141 rfl rfl
      ·intro _ hs144
       refine WL.nil ?_
       refine WC.condF rfl (by first | (simp; done) | (simp; omega) | (simp [hd13, hd028, hd129, hd37, hd055, hd156, hd74, hd119, hd0134, hd1135]; done) | (simp only [endAct, endGrid, endScr, endTerm, endVp]; simp; omega)) ?_
       refine WC.skip ?_
       refine hK139 _ _ ?_
       refine WC.rr tbk hs144 [] rfl trivial ?_
       refine WC.sr ?_
       refine WL.run tbk 2 hs144 [1] rfl ⟨rfl, trivial⟩ ?_
       refine WL.call rfl rfl rfl (Run.call Try.call25 rfl rfl rfl) (c_laws_heldVp _ _ _ (ownVpR.ok (B := 1099511627776) ho103 (fun p_ hp_ => (hs144.own p_ (List.mem_append_right [_, _, _, _, _] (List.mem_append_right _ (List.mem_append_right _ (List.mem_append_right _ (List.mem_append_right _ (List.mem_append_right _ (List.mem_append_left _ hp_)))))))).1) (markVp_sm (by rw [hd055]; assumption))) ?_ ?_) ?_
       · first | (first | assumption | omega) | (first | assumption | omega | (simp only [hd13, hd028, hd129, hd37, hd055, hd156, hd74, hd119, hd0134, hd1135, endAct, endGrid, endScr, endTerm, endVp]; first | done | assumption | omega))
       · first | (first | assumption | omega | (simp only [endVp]; omega)) | (first | assumption | omega | (simp only [hd13, hd028, hd129, hd37, hd055, hd156, hd74, hd119, hd0134, hd1135, endAct, endGrid, endScr, endTerm, endVp]; first | done | assumption | omega))
       rintro _ whs146 ⟨rfl, hs146⟩
       replace hs146 := hs144.call0 hs146
       refine ⟨_, rfl, ?_⟩
       refine WL.run tbk 1 hs146 [] rfl trivial ?_
       refine WL.nil ?_
       refine WC.seq (fun K147 hK147 => ?_)
       refine WC.rr tbk hs146 [] rfl trivial ?_
       refine WC.condF rfl (by first | (simp; done) | (simp; omega) | (simp [hd13, hd028, hd129, hd37, hd055, hd156, hd74, hd119, hd0134, hd1135]; done) | (simp only [endAct, endGrid, endScr, endTerm, endVp]; simp; omega)) ?_
       refine WC.skip ?_
       refine hK147 _ _ ?_
       refine WC.sr ?_
       refine WL.run tbk 2 hs146 [] rfl trivial ?_
       refine WL.call rfl rfl rfl (Run.call Try.call34 rfl rfl rfl) (c_laws_heldActS _ _ _ _ _ _ (OwnN.ok ho106 (fun p_ hp_ => (hs146.own p_ (List.mem_append_right [_, _, _, _, _] (List.mem_append_right _ (List.mem_append_right _ (List.mem_append_right _ (List.mem_append_right _ (List.mem_append_left _ hp_))))))).1) (fun y Li hy h3 hl => h3.ok hl (by have h9_ := List.mem_map_of_mem (f := ActR.dat) hy; first | exact s1 _ h9_ | exact s2 _ h9_ | exact s3 _ h9_ | exact sM _ h9_))) ?_ ?_ ?_) ?_
       · first | (first | assumption | omega) | (first | assumption | omega | (simp only [hd13, hd028, hd129, hd37, hd055, hd156, hd74, hd119, hd0134, hd1135, endAct, endGrid, endScr, endTerm, endVp]; first | done | assumption | omega))
       · first | (first | assumption | omega) | (first | assumption | omega | (simp only [hd13, hd028, hd129, hd37, hd055, hd156, hd74, hd119, hd0134, hd1135, endAct, endGrid, endScr, endTerm, endVp]; first | done | assumption | omega))
       · first | (first | assumption | omega) | (first | assumption | omega | (simp only [hd13, hd028, hd129, hd37, hd055, hd156, hd74, hd119, hd0134, hd1135, endAct, endGrid, endScr, endTerm, endVp]; first | done | assumption | omega))
       rintro _ whs149 ⟨rfl, hs149⟩
       replace hs149 := hs146.call0 hs149
       refine ⟨_, rfl, ?_⟩
       refine WL.run tbk 1 hs149 [] rfl trivial ?_
       refine WL.nil ?_
       refine WC.seq (fun K150 hK150 => ?_)
       refine WC.rr tbk hs149 [] rfl trivial ?_
       refine WC.condF rfl (by first | (simp; done) | (simp; omega) | (simp [hd13, hd028, hd129, hd37, hd055, hd156, hd74, hd119, hd0134, hd1135]; done) | (simp only [endAct, endGrid, endScr, endTerm, endVp]; simp; omega)) ?_
       refine WC.skip ?_
       refine hK150 _ _ ?_
       refine WC.seq (fun K152 hK152 => ?_)
       refine WC.rr tbk hs149 [] rfl trivial ?_
       refine WC.condF rfl (by first | (simp; done) | (simp; omega) | (simp [hd13, hd028, hd129, hd37, hd055, hd156, hd74, hd119, hd0134, hd1135]; done) | (simp only [endAct, endGrid, endScr, endTerm, endVp]; simp; omega)) ?_
       refine WC.skip ?_
       refine hK152 _ _ ?_
       refine WC.rr tbk hs149 [] rfl trivial ?_
       refine WC.ret ?_
       refine retV1 rfl (resV.tmp rfl) ?_
       refine ⟨congrArg Ending.returned ?_, hs149.nil⟩
       rfl
end Go.Proofs.Ytlmcekfdlgkffaa
