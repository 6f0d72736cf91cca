/-
  What the proof stands on, part 6.
-/
import Derived.Test.YtgigdjgjmfekkaaGreatDoorKG5
namespace Go.Proofs.YtgigdjgjmfekkaaGreatDoor
open Go Go.RowKit
set_option linter.unusedVariables false
set_option linter.unusedSimpArgs false
set_option maxHeartbeats 4000000 in
theorem k113_ (b_c : Nat) (A_s : Option Addr) (n_s c_s : Nat) (s : List UInt8) (i h : Int)  (w : World) (hc : w.heap[b_c]? = some (Obj.cells (List.toArray [.slice A_s n_s c_s, i64 (i), i64 (h)]) 67 (0, 0))) (f_s : SlF encB w A_s n_s s) (s_s : 0 < n_s → (adr A_s).block ∉ [b_c]) (hn : n_s ≤ 1099511627776) (hi : 0 ≤ i ∧ i ≤ n_s) :
    Calls Tryz.prog 26 #[.pointer (some ⟨b_c, 0, none⟩)] w fun e w' => ∃ r L1 i' h', e = .returned (.agg (cScr r).toArray) ∧ St w [b_c] ((b_c, Obj.cells (List.toArray [.slice A_s n_s c_s, i64 (i'), i64 (h')]) 67 (0, 0)) :: L1) w' ∧ ownScrR r L1 ∧ Small r.dat ∧ (0 ≤ i' ∧ i' ≤ n_s) := by
 have hl := f_s.len
 refine enter 100 Tryz.func26 rfl Tryz.ntmps26 rfl rfl ?_
 have hs1 := St.take1 w b_c _ hc
 refine WC.sr (WL.al hs1 Tryz.zeroValue34 rfl rfl (fun b2 _ hs3 => WL.nil (WC.sr (WL.r 1 hs3 [] rfl ?_))))
 replace hs3 := (hs3.fb b_c)
 have hF4 : St _ _ ([(b_c, _)] ++ _) _ := hs3
 refine WL.call rfl rfl rfl (Run.call Tryz.call14 rfl rfl rfl) (k104_ _ _ _ _ _ _ _ _ _ (hF4.own _ List.mem_cons_self).1 (SlF.st f_s hs3 s_s) (St.sepT hF4 f_s s_s) ?_ ?_) ?_
 · omega
 · omega
 rintro _ whs10 ⟨r5, i6, h7, rfl, hs10, hr8, hi9⟩
 replace hs10 := St.lend1 hF4 hs10
 try have hbhr8 := hr8.2 (by omega)
 refine ⟨_, rfl, WL.r 2 hs10 [] rfl ?_⟩
 have hF11 : St _ _ ([(b_c, _)] ++ _) _ := hs10
 refine WL.call rfl rfl rfl (Run.call Tryz.call14 rfl rfl rfl) (k104_ _ _ _ _ _ _ _ _ _ (hF11.own _ List.mem_cons_self).1 (SlF.st f_s hs10 s_s) (St.sepT hF11 f_s s_s) ?_ ?_) ?_
 · omega
 · omega
 rintro _ whs17 ⟨r12, i13, h14, rfl, hs17, hr15, hi16⟩
 replace hs17 := St.lend1 hF11 hs17
 try have hbhr15 := hr15.2 (by omega)
 refine ⟨_, rfl, WL.r 2 hs17 [] rfl ?_⟩
 have hF18 : St _ _ ([(b_c, _)] ++ _) _ := hs17
 refine WL.call rfl rfl rfl (Run.call Tryz.call14 rfl rfl rfl) (k104_ _ _ _ _ _ _ _ _ _ (hF18.own _ List.mem_cons_self).1 (SlF.st f_s hs17 s_s) (St.sepT hF18 f_s s_s) ?_ ?_) ?_
 · omega
 · omega
 rintro _ whs24 ⟨r19, i20, h21, rfl, hs24, hr22, hi23⟩
 replace hs24 := St.lend1 hF18 hs24
 try have hbhr22 := hr22.2 (by omega)
 refine ⟨_, rfl, WL.cl Tryz.call31 rfl (k32_ _ _ _ _) ?_⟩
 rintro _ whs25 ⟨r0_26, L0_27, rfl, hs25, ho28, hd0_29⟩
 replace hs25 := hs24.callF hs25
 refine ⟨_, rfl, ?_⟩
 replace hs25 := St.back [_, _] hs25
 have hm0 : Small r0_26.dat := by rw [hd0_29]; exact Small.new (by omega) (by omega) (by omega)
 have hsm0 : smScr 549755813888 r0_26.dat := fine_smB hm0.fine (by decide)
 refine WL.r 3 hs25 [] rfl (WL.al hs25 Tryz.zeroValue34 rfl rfl (fun b30 _ hs31 => WL.st tbk hs31 0 rfl rfl (fun _ hs32 => WL.r 1 hs32 [] rfl (WL.nil (WC.seq (fun K33 hK33 => WC.sr (WL.r 1 hs32 [] rfl ?_)))))))
 replace hs32 := (hs32.fb b_c)
 have hF34 : St _ _ ([(b_c, _)] ++ _) _ := hs32
 refine WL.call rfl rfl rfl (Run.call Tryz.call14 rfl rfl rfl) (k104_ _ _ _ _ _ _ _ _ _ (hF34.own _ List.mem_cons_self).1 (SlF.st f_s hs32 s_s) (St.sepT hF34 f_s s_s) ?_ ?_) ?_
 · omega
 · omega
 rintro _ whs40 ⟨r35, i36, h37, rfl, hs40, hr38, hi39⟩
 replace hs40 := St.lend1 hF34 hs40
 try have hbhr38 := hr38.2 (by omega)
 refine ⟨_, rfl, WL.r 1 hs40 [] rfl (WL.nil (WC.block ?_))⟩
 have hM45 := (St.grp1 (L1 := L0_27) [_, _] ((((hs40.fb b2).fr L0_27).fb b_c).fb b30))
 refine WC.lV [0, 2, 3] rfl hM45 (fun k_ (a_ : Hp) f => ∃ (n i1 h1 : Int) (r : ScrR) (L43 : Hp), k_ = n.toNat ∧ a_ = [(b30, .cells (List.toArray (cScr r)) 34 (0, 0)), (b_c, .cells (List.toArray [.slice A_s n_s c_s, i64 i1, i64 h1]) 67 (0, 0))] ++ L43 ∧ (Small r.dat) ∧ (0 ≤ n ∧ n ≤ 14) ∧ (0 ≤ i1 ∧ i1 ≤ n_s) ∧ ownScrR r L43 ∧ Sub [(5, .int .i64 n)] f) (((fun (n i1 h1 : Int) => n.toNat) (r35) (i36) (h37))) ?_ ?_
 ·refine ⟨r35, i36, h37, r0_26, L0_27, rfl, rfl, ?_, ?_, ?_, ho28, ⟨rfl, trivial⟩⟩
  · exact hm0
  · omega
  · omega
 rintro _ _ f w ⟨n, i1, h1, r, L43, rfl, rfl, p0, p1, p2, ho44, hG⟩ hF hs46
 refine WC.sub _ (hG.app hF) ?_
 clear hG hF
 replace hs46 := St.ungrp1 [_, _] hs46
 have hs47 := (((hs46.fb b2).fb b_c).fb b30)
 have hsmr : smScr 549755813888 r.dat := fine_smB p0.fine (by decide)
 have hsm1 : smScr 1048576 r.dat := fine_smB p0.fine (by decide)
 have hbr : r.W ≤ 10 ∧ r.H ≤ 4 := ⟨p0.w, p0.h⟩
 have hbs := isSize_bnd p0.fine.size
 simp only [ScrR.dat] at hbs
 refine WC.seq (fun K48 hK48 => WC.r1 hs47 [] rfl ?_)
 refine WC.cq rfl (fun h49 qh49 => ?_) (fun h49 qh49 => ?_)
 ·refine WC.skip (hK48 _ _ (WC.seq (fun K50 hK50 => WC.block (WC.sr (WL.r 1 hs47 [] rfl ?_)))))
  replace hs47 := (hs47.fb b_c)
  have hF51 : St _ _ ([(b_c, _)] ++ _) _ := hs47
  refine WL.call rfl rfl rfl (Run.call Tryz.call14 rfl rfl rfl) (k104_ _ _ _ _ _ _ _ _ _ (hF51.own _ List.mem_cons_self).1 (SlF.st f_s hs47 s_s) (St.sepT hF51 f_s s_s) ?_ ?_) ?_
  · omega
  · omega
  rintro _ whs57 ⟨r52, i53, h54, rfl, hs57, hr55, hi56⟩
  replace hs57 := St.lend1 hF51 hs57
  try have hbhr55 := hr55.2 (by omega)
  refine ⟨_, rfl, WL.r 1 hs57 [] rfl (WL.nil (WC.r1 hs57 [] rfl (WC.cq rfl (fun h58 qh58 => ?_) (fun h58 qh58 => ?_))))⟩
  ·refine WC.rG 4 hs57.d1.d1 hs57.d1 hs57 (fun _ hs59 => ?_)
   refine WG.rn [0, 1] hs59.d1 [0] rfl rfl (WG.o1 2 rfl rfl ?_)
   have hF60 : St _ _ ([(b_c, _)] ++ _) _ := hs59
   refine WL.call rfl rfl rfl (Run.call Tryz.call45 rfl rfl rfl) (k111_ _ _ _ _ _ _ _ _ (hF60.own _ List.mem_cons_self).1 (SlF.st f_s hs59 s_s) (St.sepT hF60 f_s s_s) ?_ ?_) ?_
   · omega
   · omega
   rintro _ whs66 ⟨r61, i62, h63, rfl, hs66, hr64, hi65⟩
   replace hs66 := St.lend1 hF60 hs66
   refine ⟨_, rfl, WL.nil ⟨hs66.d1, WG.o1 3 rfl rfl (WL.cl Tryz.call44 rfl (k99_ r _ _ (ownScrR.ok (B := 549755813888) ho44 (hs66.ow L43) hsmr) ?_) ?_)⟩⟩
   · first | assumption | rfl | omega | exact hsm1
   rintro _ whs67 ⟨r68, L1_69, rfl, hs67, ho70, hd71⟩
   replace hs67 := hs66.callF hs67
   refine ⟨_, rfl, ?_⟩
   replace hs67 := St.back [_, _, _] hs67
   refine WL.nil ⟨(hs67.d1.rm L1_69), WG.oK rfl (WL.st tbk hs67 1 rfl rfl (fun _ hs72 => WL.nil ⟨(hs72.d1.d1.rm L1_69), WH.dn (hK50 _ _ (WC.region (WL.r 3 hs72 [] rfl ?_)))⟩))⟩
   refine WL.nil (tkN ?_)
   replace hs72 := (hs72.rm L43)
   have hF73 := (St.grp1 (L1 := L1_69) [_, _] ((((hs72.fb b2).fr L1_69).fb b_c).fb b30))
   refine ⟨sbF rfl, _, hF73, _, ?_, _, i62, h63, r68, L1_69, rfl, rfl, ?_, ?_, ?_, ho70, ⟨rfl, trivial⟩⟩
   · omega
   · first | (rw [hd71]; first | exact p0.rune | exact p0.ctl | exact p0.go) | exact p0.sgr rfl
   · omega
   · omega
  refine WC.r1 hs57 [] rfl (WC.cq rfl (fun h74 qh74 => ?_) (fun h74 qh74 => ?_))
  ·refine WC.rG 7 hs57.d1.d1 hs57.d1 hs57 (fun _ hs75 => ?_)
   refine WG.rn [0, 2] hs75.d1 [0] rfl rfl (WG.all [1, 3] (by kernel_rfl) rfl (WGs.cons (i := 1) rfl rfl ?_ (WGs.cons (i := 3) rfl rfl ?_ WGs.nil)))
   ·refine WL.buildF (F := encI) hs75 ([8, 9, 10, 13]) Tryz.runUnderlying26 Tryz.sizeOf3 Tryz.zeroValue3 rfl rfl rfl rfl rfl rfl rfl rfl rfl rfl rfl rfl (fun A79 c80 L76 whs77 hs77 ho78 => ?_)
    replace hs77 := St.back [_, _, _] hs77
    refine WL.nil ⟨(hs77.d1.rm L76), ?_⟩
    refine WG.strS hs77.d1 (fun w_ h_ => (h_.rm L76)) ?_
    refine WG.o1 3 rfl rfl ?_
    have hF81 : St _ _ ([(b_c, _)] ++ _) _ := hs77
    refine WL.call rfl rfl rfl (Run.call Tryz.call14 rfl rfl rfl) (k104_ _ _ _ _ _ _ _ _ _ (hF81.own _ List.mem_cons_self).1 (SlF.st f_s hs77 s_s) (St.sepT hF81 f_s s_s) ?_ ?_) ?_
    · omega
    · omega
    rintro _ whs87 ⟨r82, i83, h84, rfl, hs87, hr85, hi86⟩
    replace hs87 := St.lend1 hF81 hs87
    try have hbhr85 := hr85.2 (by omega)
    refine ⟨_, rfl, WL.nil ⟨hs87.d1, ?_⟩⟩
    refine WG.strS hs87.d1 (fun w_ h_ => h_) ?_
    refine WG.tk 4 rfl (by kernel_rfl) rfl rfl rfl hs87.d1 (fun w_ hs_ => (Run.idxK (r82.toNat) Tryz.runUnderlying26 Tryz.sizeOf3 rfl rfl rfl ?_ ?_ ?_)) ?_
    · exact SlF.some_ (SlF.ofOwn ho78 ((hs_ : St _ _ _ _).ow L76))
    · first | omega | (show _ < 4; omega)
    · first | omega | (show _ < 4; omega)
    refine WG.tk 5 rfl (by kernel_rfl) rfl rfl rfl hs87.d1 (fun w_ hs_ => (Run.load Tryz.isAgg3 rfl rfl (SlF.one1 (SlF.ofOwn ho78 ((hs_ : St _ _ _ _).ow L76)) ?_ rfl))) ?_
    · first | omega | (show _ < 4; omega)
    refine WG.o1 6 rfl rfl (WL.cl Tryz.call46 rfl (k100_ r _ _ (ownScrR.ok (B := 549755813888) ho44 (hs87.ow L43) hsmr) ?_) ?_)
    · first | assumption | rfl | omega | exact hsm1
    rintro _ whs88 ⟨r89, L1_90, rfl, hs88, ho91, hd92⟩
    replace hs88 := hs87.callF hs88
    refine ⟨_, rfl, ?_⟩
    replace hs88 := St.back [_, _, _] hs88
    refine WL.nil ⟨(hs88.d1.rm L1_90), ?_⟩
    refine WG.strS hs88.d1 (fun w_ h_ => (h_.rm L1_90)) ?_
    refine WG.oK rfl (WL.st tbk hs88 1 rfl rfl (fun _ hs93 => WL.nil ⟨((hs93.d1.d1.rm L1_90).rm L76), ?_⟩))
    refine WH.strS hs93.d1 (fun w_ h_ => ((h_.d1.rm L1_90).rm L76)) ?_
    refine WH.dn (hK50 _ _ (WC.region (WL.r 3 hs93 [] rfl (WL.nil (tkN ?_)))))
    replace hs93 := ((hs93.rm L76).rm L43)
    have hF94 := (St.grp1 (L1 := L1_90) [_, _] ((((hs93.fb b2).fr L1_90).fb b_c).fb b30))
    refine ⟨sbF rfl, _, hF94, _, ?_, _, i83, h84, r89, L1_90, rfl, rfl, ?_, ?_, ?_, ho91, ⟨rfl, trivial⟩⟩
    · omega
    · first | (rw [hd92]; first | exact p0.rune | exact p0.ctl | exact p0.go) | exact p0.sgr rfl
    · omega
    · omega
   have hF95 : St _ _ ([(b_c, _)] ++ _) _ := hs75
   refine WL.call rfl rfl rfl (Run.call Tryz.call14 rfl rfl rfl) (k104_ _ _ _ _ _ _ _ _ _ (hF95.own _ List.mem_cons_self).1 (SlF.st f_s hs75 s_s) (St.sepT hF95 f_s s_s) ?_ ?_) ?_
   · omega
   · omega
   rintro _ whs101 ⟨r96, i97, h98, rfl, hs101, hr99, hi100⟩
   replace hs101 := St.lend1 hF95 hs101
   try have hbhr99 := hr99.2 (by omega)
   refine ⟨_, rfl, WL.nil ⟨hs101.d1, ?_⟩⟩
   refine WG.strS hs101.d1 (fun w_ h_ => h_) ?_
   refine WG.o1 1 rfl rfl (WL.buildF (F := encI) hs101 ([8, 9, 10, 13]) Tryz.runUnderlying26 Tryz.sizeOf3 Tryz.zeroValue3 rfl rfl rfl rfl rfl rfl rfl rfl rfl rfl rfl rfl (fun A105 c106 L102 whs103 hs103 ho104 => ?_))
   replace hs103 := St.back [_, _, _] hs103
   refine WL.nil ⟨(hs103.d1.rm L102), ?_⟩
   refine WG.strS hs103.d1 (fun w_ h_ => (h_.rm L102)) ?_
   refine WG.tk 4 rfl (by kernel_rfl) rfl rfl rfl hs103.d1 (fun w_ hs_ => (Run.idxK (r96.toNat) Tryz.runUnderlying26 Tryz.sizeOf3 rfl rfl rfl ?_ ?_ ?_)) ?_
   · exact SlF.some_ (SlF.ofOwn ho104 ((hs_ : St _ _ _ _).ow L102))
   · first | omega | (show _ < 4; omega)
   · first | omega | (show _ < 4; omega)
   refine WG.tk 5 rfl (by kernel_rfl) rfl rfl rfl hs103.d1 (fun w_ hs_ => (Run.load Tryz.isAgg3 rfl rfl (SlF.one1 (SlF.ofOwn ho104 ((hs_ : St _ _ _ _).ow L102)) ?_ rfl))) ?_
   · first | omega | (show _ < 4; omega)
   refine WG.o1 6 rfl rfl (WL.cl Tryz.call46 rfl (k100_ r _ _ (ownScrR.ok (B := 549755813888) ho44 (hs103.ow L43) hsmr) ?_) ?_)
   · first | assumption | rfl | omega | exact hsm1
   rintro _ whs107 ⟨r108, L1_109, rfl, hs107, ho110, hd111⟩
   replace hs107 := hs103.callF hs107
   refine ⟨_, rfl, ?_⟩
   replace hs107 := St.back [_, _, _] hs107
   refine WL.nil ⟨(hs107.d1.rm L1_109), ?_⟩
   refine WG.strS hs107.d1 (fun w_ h_ => (h_.rm L1_109)) ?_
   refine WG.oK rfl (WL.st tbk hs107 1 rfl rfl (fun _ hs112 => WL.nil ⟨((hs112.d1.d1.rm L1_109).rm L102), ?_⟩))
   refine WH.strS hs112.d1 (fun w_ h_ => ((h_.d1.rm L1_109).rm L102)) ?_
   refine WH.dn (hK50 _ _ (WC.region (WL.r 3 hs112 [] rfl (WL.nil (tkN ?_)))))
   replace hs112 := ((hs112.rm L102).rm L43)
   have hF113 := (St.grp1 (L1 := L1_109) [_, _] ((((hs112.fb b2).fr L1_109).fb b_c).fb b30))
   refine ⟨sbF rfl, _, hF113, _, ?_, _, i97, h98, r108, L1_109, rfl, rfl, ?_, ?_, ?_, ho110, ⟨rfl, trivial⟩⟩
   · omega
   · first | (rw [hd111]; first | exact p0.rune | exact p0.ctl | exact p0.go) | exact p0.sgr rfl
   · omega
   · omega
  refine WC.r1 hs57 [] rfl (WC.cq rfl (fun h114 qh114 => ?_) (fun h114 qh114 => ?_))
  ·refine WC.rG 10 hs57.d1.d1 hs57.d1 hs57 (fun _ hs115 => ?_)
   refine WG.rn [0, 1, 2, 3, 5, 6, 7] hs115.d1 [0, 0, 0] rfl rfl (WG.o1 4 rfl rfl ?_)
   have hF116 : St _ _ ([(b_c, _)] ++ _) _ := hs115
   refine WL.call rfl rfl rfl (Run.call Tryz.call14 rfl rfl rfl) (k104_ _ _ _ _ _ _ _ _ _ (hF116.own _ List.mem_cons_self).1 (SlF.st f_s hs115 s_s) (St.sepT hF116 f_s s_s) ?_ ?_) ?_
   · omega
   · omega
   rintro _ whs122 ⟨r117, i118, h119, rfl, hs122, hr120, hi121⟩
   replace hs122 := St.lend1 hF116 hs122
   try have hbhr120 := hr120.2 (by omega)
   refine ⟨_, rfl, WL.nil ⟨hs122.d1, WG.o1 8 rfl rfl ?_⟩⟩
   have hF123 : St _ _ ([(b_c, _)] ++ _) _ := hs122
   refine WL.call rfl rfl rfl (Run.call Tryz.call14 rfl rfl rfl) (k104_ _ _ _ _ _ _ _ _ _ (hF123.own _ List.mem_cons_self).1 (SlF.st f_s hs122 s_s) (St.sepT hF123 f_s s_s) ?_ ?_) ?_
   · omega
   · omega
   rintro _ whs129 ⟨r124, i125, h126, rfl, hs129, hr127, hi128⟩
   replace hs129 := St.lend1 hF123 hs129
   try have hbhr127 := hr127.2 (by omega)
   refine ⟨_, rfl, WL.nil ⟨hs129.d1, WG.o1 9 rfl rfl (WL.cl Tryz.call47 rfl (k64_ r _ _ _ (ownScrR.ok (B := 549755813888) ho44 (hs129.ow L43) hsmr) ?_) ?_)⟩⟩
   · first | assumption | rfl | omega | exact hsm1
   rintro _ whs130 ⟨r131, L1_132, rfl, hs130, ho133, hd134⟩
   replace hs130 := hs129.callF hs130
   refine ⟨_, rfl, ?_⟩
   replace hs130 := St.back [_, _, _] hs130
   refine WL.nil ⟨(hs130.d1.rm L1_132), WG.oK rfl (WL.st tbk hs130 1 rfl rfl (fun _ hs135 => WL.nil ⟨(hs135.d1.d1.rm L1_132), WH.dn (hK50 _ _ (WC.region (WL.r 3 hs135 [] rfl ?_)))⟩))⟩
   refine WL.nil (tkN ?_)
   replace hs135 := (hs135.rm L43)
   have hF136 := (St.grp1 (L1 := L1_132) [_, _] ((((hs135.fb b2).fr L1_132).fb b_c).fb b30))
   refine ⟨sbF rfl, _, hF136, _, ?_, _, i125, h126, r131, L1_132, rfl, rfl, ?_, ?_, ?_, ho133, ⟨rfl, trivial⟩⟩
   · omega
   · first | (rw [hd134]; first | exact p0.rune | exact p0.ctl | exact p0.go) | exact p0.sgr rfl
   · omega
   · omega
  refine WC.region (WL.r 1 hs57 [] rfl ?_)
  have hF137 : St _ _ ([(b_c, _)] ++ _) _ := hs57
  refine WL.call rfl rfl rfl (Run.call Tryz.call48 rfl rfl rfl) (k112_ _ _ _ _ _ _ _ _ (hF137.own _ List.mem_cons_self).1 (SlF.st f_s hs57 s_s) (St.sepT hF137 f_s s_s) ?_ ?_) ?_
  · omega
  · omega
  rintro _ whs143 ⟨a138, i139, h140, rfl, hs143, hr141, hi142⟩
  replace hs143 := St.lend1 hF137 hs143
  refine ⟨_, rfl, WL.r 1 hs143 [] rfl (WL.st tbk hs143 1 rfl rfl (fun _ hs144 => WL.nil (hK50 _ _ (WC.region (WL.r 3 hs144 [] rfl (WL.nil ?_))))))⟩
  refine tkN ?_
  obtain ⟨L145, L146, L147, L148, hs153, ho149, ho150, ho151, ho152⟩ := ownScrR.op hs144 ho44
  have hs154 := (((hs153.fb b2).fb b30).fb b_c)
  obtain ⟨L156, hs155, ho157⟩ := ownScrR.fl hs154 ho149 ho150 ho151 ho152
  have hs158 := (((hs155.fb b2).fb b30).fb b_c)
  have hF159 := (St.grp1 (L1 := L156) [_, _] ((((hs158.fb b2).fr L156).fb b_c).fb b30))
  refine ⟨sbF rfl, _, hF159, _, ?_, _, i139, h140, ⟨r.W, r.H, ⟨r.Main.W, r.Main.H, SlD.of ho149⟩, ⟨r.Alt.W, r.Alt.H, SlD.of ho150⟩, r.OnAlt, r.X, r.Y, r.Wrap, ⟨a138.Fg, a138.Bg, a138.Bold, a138.Under, a138.Turn⟩, r.Top, r.Bot, r.NoWrap, r.Hide, r.SaveX, r.SaveY, ⟨r.SaveA.Fg, r.SaveA.Bg, r.SaveA.Bold, r.SaveA.Under, r.SaveA.Turn⟩, SlD.of ho151, r.Limit, SlD.ofN ho152⟩, L156, rfl, rfl, ?_, ?_, ?_, (by exact ho157), ⟨rfl, trivial⟩⟩
  · omega
  · first | (rw [hd134]; first | exact p0.rune | exact p0.ctl | exact p0.go) | exact p0.sgr hr141
  · omega
  · omega
 have hm0 := p0
 refine WC.exit (hK33 _ _ (WC.seq (fun K160 hK160 => WC.sr (WL.r 1 hs47 [] rfl ?_))))
 replace hs47 := (hs47.fb b_c)
 have hF161 : St _ _ ([(b_c, _)] ++ _) _ := hs47
 refine WL.call rfl rfl rfl (Run.call Tryz.call14 rfl rfl rfl) (k104_ _ _ _ _ _ _ _ _ _ (hF161.own _ List.mem_cons_self).1 (SlF.st f_s hs47 s_s) (St.sepT hF161 f_s s_s) ?_ ?_) ?_
 · omega
 · omega
 rintro _ whs167 ⟨r162, i163, h164, rfl, hs167, hr165, hi166⟩
 replace hs167 := St.lend1 hF161 hs167
 try have hbhr165 := hr165.2 (by omega)
 refine ⟨_, rfl, WL.r 1 hs167 [] rfl (WL.nil (WC.jCK [0, 2, 3, 5, 21, 22, 57, 58, 59] rfl (((hs167.fr L43).fb b_c).fb b30) (fun o_ p_ L_ => ∃ (r : ScrR) (i_ h_ : Int), o_ = Obj.cells (List.toArray (cScr r)) 34 (0, 0) ∧ p_ = Obj.cells (List.toArray [.slice A_s n_s c_s, i64 (i_), i64 (h_)]) 67 (0, 0) ∧ ownScrR r L_ ∧ (Small r.dat) ∧ 0 ≤ i_ ∧ i_ ≤ n_s) ?_ ?_))⟩
 ·refine WC.cq rfl (fun h168 qh168 => ?_) (fun h168 qh168 => ?_)
  ·refine WC.region (WL.r 1 hs167 [] rfl (WL.st tbk hs167 1 rfl rfl (fun _ hs169 => WL.nil ?_)))
   obtain ⟨L170, L171, L172, L173, hs178, ho174, ho175, ho176, ho177⟩ := ownScrR.op hs169 ho44
   have hs179 := (((hs178.fb b2).fb b30).fb b_c)
   obtain ⟨L181, hs180, ho182⟩ := ownScrR.fl hs179 ho174 ho175 ho176 ho177
   have hs183 := (((hs180.fb b2).fb b30).fb b_c)
   refine tkN ⟨_, _, _, ((((hs183.fb b2).fr L181).fb b_c).fb b30), ⟨⟨r.W, r.H, ⟨r.Main.W, r.Main.H, SlD.of ho174⟩, ⟨r.Alt.W, r.Alt.H, SlD.of ho175⟩, true, r.X, r.Y, r.Wrap, ⟨r.A.Fg, r.A.Bg, r.A.Bold, r.A.Under, r.A.Turn⟩, r.Top, r.Bot, r.NoWrap, r.Hide, r.SaveX, r.SaveY, ⟨r.SaveA.Fg, r.SaveA.Bg, r.SaveA.Bold, r.SaveA.Under, r.SaveA.Turn⟩, SlD.of ho176, r.Limit, SlD.ofN ho177⟩, i163, h164, rfl, rfl, (by exact ho182), ?_, by omega, by omega⟩, sbF rfl⟩
   · exact hm0.alt
  refine WC.skip (tkN ⟨_, _, _, ((((hs167.fb b2).fr L43).fb b_c).fb b30), ⟨r, i163, h164, rfl, rfl, ho44, ?_, by omega, by omega⟩, sbF rfl⟩)
  · exact hm0
 rintro _ _ L184 _ ⟨r185, i189, h190, rfl, rfl, ho186, hp187, hi191, hi192⟩ hs188 f_ hf_
 refine hK160 _ _ (WC.sub _ hf_ ?_)
 clear hf_
 have hs193 := (((hs188.fb b2).fb b_c).fb b30)
 have hm0 := hp187
 have hsm0 : smScr 549755813888 (ScrR.dat _) := fine_smB hm0.fine (by decide)
 have hbs := isSize_bnd hm0.fine.size
 simp only [ScrR.dat] at hbs
 have hbr := hm0.w
 simp only [ScrR.dat] at hbr
 refine WC.seq (fun K194 hK194 => WC.sr (WL.r 1 hs193 [] rfl ?_))
 replace hs193 := (hs193.fb b_c)
 have hF195 : St _ _ ([(b_c, _)] ++ _) _ := hs193
 refine WL.call rfl rfl rfl (Run.call Tryz.call14 rfl rfl rfl) (k104_ _ _ _ _ _ _ _ _ _ (hF195.own _ List.mem_cons_self).1 (SlF.st f_s hs193 s_s) (St.sepT hF195 f_s s_s) ?_ ?_) ?_
 · omega
 · omega
 rintro _ whs201 ⟨r196, i197, h198, rfl, hs201, hr199, hi200⟩
 replace hs201 := St.lend1 hF195 hs201
 try have hbhr199 := hr199.2 (by omega)
 refine ⟨_, rfl, WL.r 2 hs201 [] rfl (WL.pA tbk 3 Acts.nil hs201 [1] rfl rfl rfl rfl (fun g_ => ⟨rfl, trivial⟩) (WL.nil (WC.jCK [0, 2, 3, 5, 21, 22, 57, 58, 59, 61, 62, 63, 64, 68] rfl (((hs201.fr L184).fb b_c).fb b30) (fun o_ p_ L_ => ∃ (r : ScrR) (i_ h_ : Int), o_ = Obj.cells (List.toArray (cScr r)) 34 (0, 0) ∧ p_ = Obj.cells (List.toArray [.slice A_s n_s c_s, i64 (i_), i64 (h_)]) 67 (0, 0) ∧ ownScrR r L_ ∧ (Small r.dat) ∧ 0 ≤ i_ ∧ i_ ≤ n_s) ?_ ?_)))⟩
 ·refine WC.cq rfl (fun h202 qh202 => ?_) (fun h202 qh202 => ?_)
  ·have hcH := qh202
   refine WC.sr (WL.r 4 hs201 [1] rfl ?_)
   have hF203 : St _ _ ([(b_c, _)] ++ _) _ := hs201
   refine WL.call rfl rfl rfl (Run.call Tryz.call14 rfl rfl rfl) (k104_ _ _ _ _ _ _ _ _ _ (hF203.own _ List.mem_cons_self).1 (SlF.st f_s hs201 s_s) (St.sepT hF203 f_s s_s) ?_ ?_) ?_
   · omega
   · omega
   rintro _ whs209 ⟨r204, i205, h206, rfl, hs209, hr207, hi208⟩
   replace hs209 := St.lend1 hF203 hs209
   try have hbhr207 := hr207.2 (by omega)
   refine ⟨_, rfl, WL.r 1 hs209 [] rfl (WL.st tbk hs209 1 rfl rfl (fun _ hs210 => WL.nil (WC.region (WL.r 4 hs210 [1] rfl (WL.st tbk hs210 1 rfl rfl (fun _ hs211 => WL.nil ?_))))))⟩
   obtain ⟨L212, L213, L214, L215, hs220, ho216, ho217, ho218, ho219⟩ := ownScrR.op hs211 ho186
   have hs221 := (((hs220.fb b2).fb b30).fb b_c)
   obtain ⟨L223, hs222, ho224⟩ := ownScrR.fl hs221 ho216 ho217 ho218 ho219
   have hs225 := (((hs222.fb b2).fb b30).fb b_c)
   refine tkN ⟨_, _, _, ((((hs225.fb b2).fr L223).fb b_c).fb b30), ⟨⟨r185.W, r185.H, ⟨r185.Main.W, r185.Main.H, SlD.of ho216⟩, ⟨r185.Alt.W, r185.Alt.H, SlD.of ho217⟩, r185.OnAlt, r185.X, r185.Y, r185.Wrap, ⟨r185.A.Fg, r185.A.Bg, r185.A.Bold, r185.A.Under, r185.A.Turn⟩, r204, (r204 + (1)), r185.NoWrap, r185.Hide, r185.SaveX, r185.SaveY, ⟨r185.SaveA.Fg, r185.SaveA.Bg, r185.SaveA.Bold, r185.SaveA.Under, r185.SaveA.Turn⟩, SlD.of ho218, r185.Limit, SlD.ofN ho219⟩, i205, h206, rfl, rfl, (by exact ho224), ?_, by omega, by omega⟩, sbF rfl⟩
   · exact hm0.part (show 0 ≤ r204 ∧ r204 < r185.H - 1 by have h9 := hr207; have h8 := hr207.2 (by omega); omega)
  refine WC.skip (tkN ⟨_, _, _, ((((hs201.fb b2).fr L184).fb b_c).fb b30), ⟨r185, i197, h198, rfl, rfl, ho186, ?_, by omega, by omega⟩, sbF rfl⟩)
  · exact hm0
 rintro _ _ L226 _ ⟨r227, i231, h232, rfl, rfl, ho228, hp229, hi233, hi234⟩ hs230 f_ hf_
 refine hK194 _ _ (WC.sub _ hf_ ?_)
 clear hf_
 have hs235 := (((hs230.fb b2).fb b_c).fb b30)
 have hm0 := hp229
 have hsm0 : smScr 549755813888 (ScrR.dat _) := fine_smB hm0.fine (by decide)
 have hbs := isSize_bnd hm0.fine.size
 simp only [ScrR.dat] at hbs
 have hbr := hm0.w
 simp only [ScrR.dat] at hbr
 refine WC.seq (fun K236 hK236 => WC.sr (WL.r 1 hs235 [] rfl ?_))
 replace hs235 := (hs235.fb b_c)
 have hF237 : St _ _ ([(b_c, _)] ++ _) _ := hs235
 refine WL.call rfl rfl rfl (Run.call Tryz.call14 rfl rfl rfl) (k104_ _ _ _ _ _ _ _ _ _ (hF237.own _ List.mem_cons_self).1 (SlF.st f_s hs235 s_s) (St.sepT hF237 f_s s_s) ?_ ?_) ?_
 · omega
 · omega
 rintro _ whs243 ⟨r238, i239, h240, rfl, hs243, hr241, hi242⟩
 replace hs243 := St.lend1 hF237 hs243
 try have hbhr241 := hr241.2 (by omega)
 refine ⟨_, rfl, WL.r 1 hs243 [] rfl (WL.nil (WC.jCK [0, 2, 3, 5, 21, 22, 57, 58, 59, 61, 62, 63, 64, 68, 79, 80, 81] rfl (((hs243.fr L226).fb b_c).fb b30) (fun o_ p_ L_ => ∃ (r : ScrR) (i_ h_ : Int), o_ = Obj.cells (List.toArray (cScr r)) 34 (0, 0) ∧ p_ = Obj.cells (List.toArray [.slice A_s n_s c_s, i64 (i_), i64 (h_)]) 67 (0, 0) ∧ ownScrR r L_ ∧ (Small r.dat) ∧ 0 ≤ i_ ∧ i_ ≤ n_s) ?_ ?_))⟩
 ·refine WC.cq rfl (fun h244 qh244 => ?_) (fun h244 qh244 => ?_)
  ·refine WC.region (WL.r 1 hs243 [] rfl (WL.st tbk hs243 1 rfl rfl (fun _ hs245 => WL.nil ?_)))
   obtain ⟨L246, L247, L248, L249, hs254, ho250, ho251, ho252, ho253⟩ := ownScrR.op hs245 ho228
   have hs255 := (((hs254.fb b2).fb b30).fb b_c)
   obtain ⟨L257, hs256, ho258⟩ := ownScrR.fl hs255 ho250 ho251 ho252 ho253
   have hs259 := (((hs256.fb b2).fb b30).fb b_c)
   refine tkN ⟨_, _, _, ((((hs259.fb b2).fr L257).fb b_c).fb b30), ⟨⟨r227.W, r227.H, ⟨r227.Main.W, r227.Main.H, SlD.of ho250⟩, ⟨r227.Alt.W, r227.Alt.H, SlD.of ho251⟩, r227.OnAlt, r227.X, r227.Y, r227.Wrap, ⟨r227.A.Fg, r227.A.Bg, r227.A.Bold, r227.A.Under, r227.A.Turn⟩, r227.Top, r227.Bot, true, r227.Hide, r227.SaveX, r227.SaveY, ⟨r227.SaveA.Fg, r227.SaveA.Bg, r227.SaveA.Bold, r227.SaveA.Under, r227.SaveA.Turn⟩, SlD.of ho252, r227.Limit, SlD.ofN ho253⟩, i239, h240, rfl, rfl, (by exact ho258), ?_, by omega, by omega⟩, sbF rfl⟩
   · exact hm0.nowrap
  refine WC.skip (tkN ⟨_, _, _, ((((hs243.fb b2).fr L226).fb b_c).fb b30), ⟨r227, i239, h240, rfl, rfl, ho228, ?_, by omega, by omega⟩, sbF rfl⟩)
  · exact hm0
 rintro _ _ L260 _ ⟨r261, i265, h266, rfl, rfl, ho262, hp263, hi267, hi268⟩ hs264 f_ hf_
 refine hK236 _ _ (WC.sub _ hf_ ?_)
 clear hf_
 have hs269 := (((hs264.fb b2).fb b_c).fb b30)
 have hm0 := hp263
 have hsm0 : smScr 549755813888 (ScrR.dat _) := fine_smB hm0.fine (by decide)
 have hbs := isSize_bnd hm0.fine.size
 simp only [ScrR.dat] at hbs
 have hbr := hm0.w
 simp only [ScrR.dat] at hbr
 refine WC.seq (fun K270 hK270 => WC.sr (WL.r 1 hs269 [] rfl ?_))
 replace hs269 := (hs269.fb b_c)
 have hF271 : St _ _ ([(b_c, _)] ++ _) _ := hs269
 refine WL.call rfl rfl rfl (Run.call Tryz.call14 rfl rfl rfl) (k104_ _ _ _ _ _ _ _ _ _ (hF271.own _ List.mem_cons_self).1 (SlF.st f_s hs269 s_s) (St.sepT hF271 f_s s_s) ?_ ?_) ?_
 · omega
 · omega
 rintro _ whs277 ⟨r272, i273, h274, rfl, hs277, hr275, hi276⟩
 replace hs277 := St.lend1 hF271 hs277
 try have hbhr275 := hr275.2 (by omega)
 refine ⟨_, rfl, WL.r 1 hs277 [] rfl (WL.nil (WC.jCK [0, 2, 3, 5, 21, 22, 57, 58, 59, 61, 62, 63, 64, 68, 79, 80, 81, 83, 84, 85] rfl (((hs277.fr L260).fb b_c).fb b30) (fun o_ p_ L_ => ∃ (r : ScrR) (i_ h_ : Int), o_ = Obj.cells (List.toArray (cScr r)) 34 (0, 0) ∧ p_ = Obj.cells (List.toArray [.slice A_s n_s c_s, i64 (i_), i64 (h_)]) 67 (0, 0) ∧ ownScrR r L_ ∧ (Small r.dat) ∧ 0 ≤ i_ ∧ i_ ≤ n_s) ?_ ?_))⟩
 ·refine WC.cq rfl (fun h278 qh278 => ?_) (fun h278 qh278 => ?_)
  ·refine WC.sr (WL.r 3 hs277 [1] rfl ?_)
   have hF279 : St _ _ ([(b_c, _)] ++ _) _ := hs277
   refine WL.call rfl rfl rfl (Run.call Tryz.call14 rfl rfl rfl) (k104_ _ _ _ _ _ _ _ _ _ (hF279.own _ List.mem_cons_self).1 (SlF.st f_s hs277 s_s) (St.sepT hF279 f_s s_s) ?_ ?_) ?_
   · omega
   · omega
   rintro _ whs285 ⟨r280, i281, h282, rfl, hs285, hr283, hi284⟩
   replace hs285 := St.lend1 hF279 hs285
   try have hbhr283 := hr283.2 (by omega)
   refine ⟨_, rfl, WL.r 1 hs285 [] rfl (WL.st tbk hs285 1 rfl rfl (fun _ hs286 => WL.nil (WC.sr (WL.r 3 hs286 [1] rfl ?_))))⟩
   have hF287 : St _ _ ([(b_c, _)] ++ _) _ := hs286
   refine WL.call rfl rfl rfl (Run.call Tryz.call14 rfl rfl rfl) (k104_ _ _ _ _ _ _ _ _ _ (hF287.own _ List.mem_cons_self).1 (SlF.st f_s hs286 s_s) (St.sepT hF287 f_s s_s) ?_ ?_) ?_
   · omega
   · omega
   rintro _ whs293 ⟨r288, i289, h290, rfl, hs293, hr291, hi292⟩
   replace hs293 := St.lend1 hF287 hs293
   try have hbhr291 := hr291.2 (by omega)
   refine ⟨_, rfl, WL.r 1 hs293 [] rfl (WL.st tbk hs293 1 rfl rfl (fun _ hs294 => WL.nil (WC.region (WL.r 1 hs294 [] rfl ?_))))⟩
   have hF295 : St _ _ ([(b_c, _)] ++ _) _ := hs294
   refine WL.call rfl rfl rfl (Run.call Tryz.call48 rfl rfl rfl) (k112_ _ _ _ _ _ _ _ _ (hF295.own _ List.mem_cons_self).1 (SlF.st f_s hs294 s_s) (St.sepT hF295 f_s s_s) ?_ ?_) ?_
   · omega
   · omega
   rintro _ whs301 ⟨a296, i297, h298, rfl, hs301, hr299, hi300⟩
   replace hs301 := St.lend1 hF295 hs301
   refine ⟨_, rfl, WL.r 1 hs301 [] rfl (WL.st tbk hs301 1 rfl rfl (fun _ hs302 => WL.nil ?_))⟩
   obtain ⟨L303, L304, L305, L306, hs311, ho307, ho308, ho309, ho310⟩ := ownScrR.op hs302 ho262
   have hs312 := (((hs311.fb b2).fb b30).fb b_c)
   obtain ⟨L314, hs313, ho315⟩ := ownScrR.fl hs312 ho307 ho308 ho309 ho310
   have hs316 := (((hs313.fb b2).fb b30).fb b_c)
   refine tkN ⟨_, _, _, ((((hs316.fb b2).fr L314).fb b_c).fb b30), ⟨⟨r261.W, r261.H, ⟨r261.Main.W, r261.Main.H, SlD.of ho307⟩, ⟨r261.Alt.W, r261.Alt.H, SlD.of ho308⟩, r261.OnAlt, r261.X, r261.Y, r261.Wrap, ⟨r261.A.Fg, r261.A.Bg, r261.A.Bold, r261.A.Under, r261.A.Turn⟩, r261.Top, r261.Bot, r261.NoWrap, r261.Hide, r280, r288, ⟨a296.Fg, a296.Bg, a296.Bold, a296.Under, a296.Turn⟩, SlD.of ho309, r261.Limit, SlD.ofN ho310⟩, i297, h298, rfl, rfl, (by exact ho315), ?_, by omega, by omega⟩, sbF rfl⟩
   · exact hm0.saved (show 0 ≤ r280 ∧ r280 < r261.W by omega) (show 0 ≤ r288 ∧ r288 < r261.H by omega) hr299
  refine WC.skip (tkN ⟨_, _, _, ((((hs277.fb b2).fr L260).fb b_c).fb b30), ⟨r261, i273, h274, rfl, rfl, ho262, ?_, by omega, by omega⟩, sbF rfl⟩)
  · exact hm0
 rintro _ _ L317 _ ⟨r318, i322, h323, rfl, rfl, ho319, hp320, hi324, hi325⟩ hs321 f_ hf_
 refine hK270 _ _ (WC.sub _ hf_ ?_)
 clear hf_
 have hs326 := (((hs321.fb b2).fb b_c).fb b30)
 have hm0 := hp320
 have hsm0 : smScr 549755813888 (ScrR.dat _) := fine_smB hm0.fine (by decide)
 have hbs := isSize_bnd hm0.fine.size
 simp only [ScrR.dat] at hbs
 have hbr := hm0.w
 simp only [ScrR.dat] at hbr
 refine WC.sr (WL.r 1 hs326 [0] rfl (WL.st tbk hs326 2 rfl rfl (fun _ hs327 => WL.nil (WC.ret (retV1 rfl (resV.cellA tbk hs327 2 rfl rfl rfl rfl) (⟨r318, _, _, _, rfl, St.keepP (L1 := L317) ((hs327.fr L317).fb b_c), ho319, ?_, by omega⟩))))))
 · exact hm0
theorem built_28_0_1_2_3 (x0 : Int) (x1 : Bool) (x2 : Option Addr) (x3 : Nat) (x4 : Nat) (x5 : Option Addr) (x6 : Nat) (x7 : Nat) : Tryz.prog.built 28 [(0, .int .i64 x0), (1, .bool x1), (2, .slice x2 x3 x4), (3, .slice x5 x6 x7)] = some (List.toArray [.int .i64 x0, .bool x1, .slice x2 x3 x4, .slice x5 x6 x7]) := by kernel_rfl
theorem k114_ (p : VpR) (w : World) (f_p : okVpR 549755813888 w p) (hsm : smVp 1048576 p.dat) :
    Calls Tryz.prog 34 #[.agg #[i64 p.State, .bool p.Mark, .slice p.Args.A p.Args.n p.Args.c, .slice p.Part.A p.Part.n p.Part.c]] w fun e w' => ∃ r L1, e = .returned (.agg #[i64 r.State, .bool r.Mark, .slice r.Args.A r.Args.n r.Args.c, .slice r.Part.A r.Part.n r.Part.c]) ∧ St w [] L1 w' ∧ ownVpR r L1 ∧ r.dat = p.dat := by
 have nb_p_Args := f_p.Args_n
 have nl_p_Args := f_p.Args.len
 have nb_p_Part := f_p.Part_n
 have nl_p_Part := f_p.Part.len
 have hsB : smVp 549755813888 p.dat := ⟨Nat.le_trans hsm.1 (by decide), Nat.le_trans hsm.2 (by decide)⟩
 have hsa : p.Args.xs.length ≤ 1048576 := hsm.1
 have hsp : p.Part.xs.length ≤ 1048576 := hsm.2
 refine enter 14 Tryz.func34 rfl Tryz.ntmps34 rfl rfl ?_
 have hs1 := St.init w
 refine WC.sr (WL.bx hs1 rfl (fun b2 _ hs3 => WL.al hs3 Tryz.zeroValue28 rfl rfl (fun b4 _ hs5 => WL.nil (WC.seq (fun K6 hK6 => WC.rH hs5.d1 hs5 (fun _ hs7 => ?_))))))
 refine WH.rn [0, 1, 2, 3, 4, 5, 7, 8] hs7.d1 [0, 0, 0, 0] rfl rfl (WH.o1 6 rfl (WL.cl Tryz.call67 rfl (k18_ _ _ _ _ _ (SlF.st0 f_p.Args hs7) ?_) ?_))
 · first | assumption | rfl | omega
 rintro _ whs8 ⟨A9, c10, L1_11, rfl, hs8, ho12⟩
 replace hs8 := hs7.callF hs8
 refine ⟨_, rfl, ?_⟩
 replace hs8 := St.back [_, _] hs8
 refine WL.nil ⟨(hs8.d1.rm L1_11), WH.o1 9 rfl (WL.cl Tryz.call68 rfl (k17_ _ _ _ _ _ (SlF.st0 f_p.Part hs8) ?_) ?_)⟩
 · first | assumption | rfl | omega
 rintro _ whs13 ⟨A14, c15, L1_16, rfl, hs13, ho17⟩
 replace hs13 := hs8.callF hs13
 refine ⟨_, rfl, ?_⟩
 replace hs13 := St.back [_, _] hs13
 refine WL.nil ⟨((hs13.d1.rm L1_16).rm L1_11), ?_⟩
 refine WH.take 10 rfl (by kernel_rfl) rfl rfl rfl ((hs13.d1.rm L1_16).rm L1_11) (fun w_ hs_ => (Run.build rfl rfl rfl rfl (built_28_0_1_2_3 _ _ _ _ _ _ _ _))) ?_
 refine WH.o1 11 rfl (WL.st tbk hs13 0 rfl rfl (fun _ hs18 => WL.nil ⟨((hs18.d1.rm L1_16).rm L1_11), WH.dn (hK6 _ _ (WC.ret (retV1 rfl (resV.cellA tbk hs18 0 rfl rfl rfl rfl) ?_)))⟩))
 obtain ⟨L20, hs19, ho21⟩ := ownVpR.fl hs18 ho12 ho17
 have hs22 := ((hs19.fb b2).fb b4)
 refine ownVpR.ret rfl (St.keep1 (hs22.fr L20)) ho21 ?_
 · exact VpD.ext' rfl rfl rfl rfl
theorem k115_ (p : VpR) (w : World) (f_p : okVpR 549755813888 w p) (hsm : smVp 1048576 p.dat) :
    Calls Tryz.prog 94 #[.agg #[i64 p.State, .bool p.Mark, .slice p.Args.A p.Args.n p.Args.c, .slice p.Part.A p.Part.n p.Part.c]] w fun e w' => ∃ r L1, e = .returned (.agg #[i64 r.State, .bool r.Mark, .slice r.Args.A r.Args.n r.Args.c, .slice r.Part.A r.Part.n r.Part.c]) ∧ St w [] L1 w' ∧ ownVpR r L1 ∧ r.dat = p.dat := by
 have nb_p_Args := f_p.Args_n
 have nl_p_Args := f_p.Args.len
 have nb_p_Part := f_p.Part_n
 have nl_p_Part := f_p.Part.len
 have hsB : smVp 549755813888 p.dat := ⟨Nat.le_trans hsm.1 (by decide), Nat.le_trans hsm.2 (by decide)⟩
 have hsa : p.Args.xs.length ≤ 1048576 := hsm.1
 have hsp : p.Part.xs.length ≤ 1048576 := hsm.2
 refine enter 14 Tryz.func94 rfl Tryz.ntmps94 rfl rfl ?_
 have hs1 := St.init w
 refine WC.sr (WL.bx hs1 rfl (fun b2 _ hs3 => WL.al hs3 Tryz.zeroValue28 rfl rfl (fun b4 _ hs5 => WL.nil (WC.sr (WL.buildF (F := encI) hs5 ([]) Tryz.runUnderlying26 Tryz.sizeOf3 Tryz.zeroValue3 rfl rfl rfl rfl rfl rfl rfl rfl rfl rfl rfl rfl (fun A9 c10 L6 whs7 hs7 ho8 => ?_))))))
 replace hs7 := St.back [_, _] hs7
 refine WL.r 2 hs7 [1] rfl (WL.appendG (hs7.fr L6) ho8 (SlF.src (SlF.st0 f_p.Args hs7) Tryz.underlying26) Tryz.underlying26 inf3 rfl rfl rfl rfl rfl rfl rfl rfl rfl rfl ?_ (fun A14 c15 L11 whs12 hs12 ho13 => ?_))
 · first | omega | (simp; omega)
 replace hs12 := St.back [_, _] hs12
 refine WL.r 1 hs12 [] rfl (WL.st tbk hs12 1 rfl rfl (fun _ hs16 => WL.nil (WC.sr (WL.buildF (F := encB) hs16 ([]) Tryz.runUnderlying22 Tryz.sizeOf5 Tryz.zeroValue5 rfl rfl rfl rfl rfl rfl rfl rfl rfl rfl rfl rfl (fun A20 c21 L17 whs18 hs18 ho19 => ?_)))))
 replace hs18 := St.back [_, _] hs18
 refine WL.r 2 hs18 [1] rfl (WL.appendG (hs18.fr L17) ho19 (SlF.src (SlF.st0 f_p.Part hs18) Tryz.underlying22) Tryz.underlying22 inf5 rfl rfl rfl rfl rfl rfl rfl rfl rfl rfl ?_ (fun A25 c26 L22 whs23 hs23 ho24 => ?_))
 · first | omega | (simp; omega)
 replace hs23 := St.back [_, _] hs23
 refine WL.r 1 hs23 [] rfl (WL.st tbk hs23 1 rfl rfl (fun _ hs27 => WL.nil (WC.sr (WL.r 1 hs27 [1] rfl (WL.st tbk hs27 0 rfl rfl (fun _ hs28 => WL.nil (WC.ret ?_)))))))
 refine retV1 rfl (resV.cellA tbk hs28 0 rfl rfl rfl rfl) ?_
 obtain ⟨L30, hs29, ho31⟩ := ownVpR.fl hs28 ho13 ho24
 have hs32 := ((hs29.fb b2).fb b4)
 refine ownVpR.ret rfl (St.keep1 (hs32.fr L30)) ho31 ?_
 · exact VpD.ext' rfl rfl rfl rfl
theorem built_28 : Tryz.prog.built 28 [] = some (List.toArray [.int .i64 0, .bool false, .slice none 0 0, .slice none 0 0]) := by kernel_rfl
theorem built_58_0_1 (x0 : Int) (x1 : Int) : Tryz.prog.built 58 [(0, .int .i64 x0), (1, .int .i64 x1)] = some (List.toArray [.int .i64 x0, .int .i64 x1, .bool false, .slice none 0 0]) := by kernel_rfl
theorem built_28_3 (x0 : Option Addr) (x1 : Nat) (x2 : Nat) : Tryz.prog.built 28 [(3, .slice x0 x1 x2)] = some (List.toArray [.int .i64 0, .bool false, .slice none 0 0, .slice x0 x1 x2]) := by kernel_rfl
theorem built_58 : Tryz.prog.built 58 [] = some (List.toArray [.int .i64 0, .int .i64 0, .bool false, .slice none 0 0]) := by kernel_rfl
theorem k116_ (A_p : Option Addr) (n_p c_p : Nat) (p : List UInt8) (b : Int) (w : World) (f_p : SlF encB w A_p n_p p) (hn : n_p ≤ 1048576) :
    Calls Tryz.prog 130 #[.slice A_p n_p c_p, i64 b] w fun e w' => ∃ r0 L0 r1 L1, e = .returned (.tuple #[.agg #[i64 r0.State, .bool r0.Mark, .slice r0.Args.A r0.Args.n r0.Args.c, .slice r0.Part.A r0.Part.n r0.Part.c], .agg #[i64 r1.Kind, i64 r1.R, .bool r1.Mark, .slice r1.Args.A r1.Args.n r1.Args.c]]) ∧ St w [] (L0 ++ L1) w' ∧ ownVpR r0 L0 ∧ ownActR r1 L1 ∧ r0.dat = (vpPlain p b).1 ∧ r1.dat = (vpPlain p b).2 := by
 have hpl := f_p.len
 refine enter 49 Tryz.func130 rfl Tryz.ntmps130 rfl rfl ?_
 have hs1 := St.init w
 refine WC.sr (WL.al hs1 Tryz.zeroValue28 rfl rfl (fun b2 _ hs3 => WL.al hs3 Tryz.zeroValue58 rfl rfl (fun b4 _ hs5 => WL.nil (WC.seq (fun K6 hK6 => WC.sr (WL.r 3 hs5 [] rfl (WL.pO tbk 2 Acts.nil hs5 [] rfl rfl rfl rfl (fun g_ => trivial) ?_)))))))
 refine WL.nil (WC.cq rfl (fun h7 qh7 => ?_) (fun h7 qh7 => ?_))
 ·refine WC.sr ?_
  refine WL.val rfl rfl rfl (Run.build rfl rfl rfl rfl (built_28)) (WL.r 1 hs5 [] rfl ?_)
  refine WL.val rfl rfl rfl (Run.build rfl rfl rfl rfl (built_58_0_1 _ _)) (WL.st tbk hs5 1 rfl rfl (fun _ hs8 => WL.st tbk hs8 0 rfl rfl (fun _ hs9 => WL.nil (WC.ret (tkR ?_)))))
  clear hK6
  refine retV2 rfl (resV.cellA tbk hs9 1 rfl rfl rfl rfl) (resV.cellA tbk hs9 0 rfl rfl rfl rfl) ?_
  have hv : vpPlain p b = (vp0, ⟨2, b, false, []⟩) := by unfold vpPlain; rw [if_pos (by simp at qh7; omega)]
  try simp only [List.nil_append] at *
  obtain ⟨L13, hs12, ho14⟩ := ownVpR.fl hs9 (OwnF.nil _ _) (OwnF.nil _ _)
  have hs15 := ((hs12.fb b2).fb b4)
  refine ⟨⟨0, false, ⟨none, 0, 0, []⟩, ⟨none, 0, 0, []⟩⟩, _, ⟨(2), b, false, ⟨none, 0, 0, []⟩⟩, _, rfl, (St.drop ((hs15.fr ([] : Hp)).fr L13) (List.Sublist.append_left (List.sublist_append_left ([] : Hp) _) L13)), ?_, ?_, ?_, ?_⟩
  · exact (by exact ho14)
  · exact (OwnF.nil _ _)
  · rw [hv]; rfl
  · rw [hv]; rfl
 have hn1 : ¬ (b < 32 ∨ b = 127) := by simp at qh7; omega
 refine WC.skip (hK6 _ _ (WC.seq (fun K17 hK17 => WC.r1 hs5 [] rfl ?_)))
 refine WC.cD rfl (fun qh18 => ?_) (fun qh18 => ?_)
 ·refine WC.sr ?_
  refine WL.val rfl rfl rfl (Run.build rfl rfl rfl rfl (built_28)) (WL.r 1 hs5 [] rfl ?_)
  refine WL.val rfl rfl rfl (Run.build rfl rfl rfl rfl (built_58_0_1 _ _)) (WL.st tbk hs5 1 rfl rfl (fun _ hs19 => WL.st tbk hs19 0 rfl rfl (fun _ hs20 => WL.nil (WC.ret (tkR ?_)))))
  clear hK17
  refine retV2 rfl (resV.cellA tbk hs20 1 rfl rfl rfl rfl) (resV.cellA tbk hs20 0 rfl rfl rfl rfl) ?_
  have hv : vpPlain p b = (vp0, ⟨1, b, false, []⟩) := by unfold vpPlain; rw [if_neg (by simp at *; omega), if_pos (by omega)]
  try simp only [List.nil_append] at *
  obtain ⟨L24, hs23, ho25⟩ := ownVpR.fl hs20 (OwnF.nil _ _) (OwnF.nil _ _)
  have hs26 := ((hs23.fb b2).fb b4)
  refine ⟨⟨0, false, ⟨none, 0, 0, []⟩, ⟨none, 0, 0, []⟩⟩, _, ⟨(1), b, false, ⟨none, 0, 0, []⟩⟩, _, rfl, (St.drop ((hs26.fr ([] : Hp)).fr L24) (List.Sublist.append_left (List.sublist_append_left ([] : Hp) _) L24)), ?_, ?_, ?_, ?_⟩
  · exact (by exact ho25)
  · exact (OwnF.nil _ _)
  · rw [hv]; rfl
  · rw [hv]; rfl
 refine WC.skip (hK17 _ _ (WC.sr (WL.buildF (F := encB) hs5 ([]) Tryz.runUnderlying22 Tryz.sizeOf5 Tryz.zeroValue5 rfl rfl rfl rfl rfl rfl rfl rfl rfl rfl rfl rfl (fun A31 c32 L28 whs29 hs29 ho30 => ?_))))
 replace hs29 := St.back [_, _] hs29
 refine WL.r 1 hs29 [] rfl (WL.appendG (hs29.fr L28) ho30 (SlF.src (SlF.st0 f_p hs29) Tryz.underlying22) Tryz.underlying22 inf5 rfl rfl rfl rfl rfl rfl rfl rfl rfl rfl ?_ (fun A36 c37 L33 whs34 hs34 ho35 => ?_))
 · first | omega | (simp; omega)
 replace hs34 := St.back [_, _] hs34
 refine WL.r 2 hs34 [] rfl (WL.buildSlice hs34 Tryz.runUnderlying22 Tryz.sizeOf5 Tryz.zeroValue5 rfl rfl rfl rfl rfl rfl rfl rfl rfl rfl (fun b38 whs39 hs39 => ?_))
 refine WL.appendG (hs39.fr L33) ho35 (srcB1 Tryz.underlying22 (hs39.own _ (nthL_mem (i := 0) rfl)).1) Tryz.underlying22 inf5 rfl rfl rfl rfl rfl rfl rfl rfl rfl rfl ?_ (fun A43 c44 L40 whs41 hs41 ho42 => ?_)
 · first | omega | (simp; omega)
 replace hs41 := St.back [_, _, _] hs41
 refine WL.r 1 hs41 [] rfl (WL.nil (WC.sr (WL.r 1 hs41 [] rfl (WL.cl Tryz.call98 rfl (k86_ _ _ _ _ _ (SlF.ofOwn ho42 (hs41.ow L40)) (OwnF.cap ho42) ?_) ?_))))
 · first | assumption | rfl | omega | (simp; omega)
 rintro _ whs45 ⟨rfl, hs45⟩
 replace hs45 := hs41.call0 hs45
 refine ⟨_, rfl, WL.r 5 hs45 [] rfl (WL.nil (WC.seq (fun K46 hK46 => WC.r1 hs45 [] rfl ?_)))⟩
 refine WC.cD rfl (fun qh47 => ?_) (fun qh47 => ?_)
 ·refine WC.sr ?_
  refine WL.val rfl rfl rfl (Run.build rfl rfl rfl rfl (built_28)) (WL.r 1 hs45 [] rfl ?_)
  refine WL.val rfl rfl rfl (Run.build rfl rfl rfl rfl (built_58_0_1 _ _)) (WL.st tbk hs45 2 rfl rfl (fun _ hs48 => WL.st tbk hs48 1 rfl rfl (fun _ hs49 => WL.nil (WC.ret (tkR ?_)))))
  clear hK46
  refine retV2 rfl (resV.cellA tbk hs49 2 rfl rfl rfl rfl) (resV.cellA tbk hs49 1 rfl rfl rfl rfl) ?_
  have hv : vpPlain p b = (vp0, ⟨1, rvN (runeL (p ++ [ub b])), false, []⟩) := by unfold vpPlain; rw [if_neg hn1, if_neg (by omega), if_pos (by simpa [← Int.ofNat_inj] using qh47)]
  try simp only [List.nil_append] at *
  obtain ⟨L53, hs52, ho54⟩ := ownVpR.fl hs49 (OwnF.nil _ _) (OwnF.nil _ _)
  have hs55 := (((hs52.fb b2).fb b4).fb b38)
  refine ⟨⟨0, false, ⟨none, 0, 0, []⟩, ⟨none, 0, 0, []⟩⟩, _, ⟨(1), _, false, ⟨none, 0, 0, []⟩⟩, _, rfl, (St.drop ((hs55.fr ([] : Hp)).fr L53) (List.Sublist.append_left (List.sublist_append_left ([] : Hp) _) L53)), ?_, ?_, ?_, ?_⟩
  · exact (by exact ho54)
  · exact (OwnF.nil _ _)
  · rw [hv]; rfl
  · rw [hv]; rfl
 have hn3 : ¬ rvS (runeL (p ++ [ub b])) = (p ++ [ub b]).length := by simpa [← Int.ofNat_inj] using qh47
 refine WC.skip (hK46 _ _ (WC.seq (fun K57 hK57 => WC.sr (WL.r 1 hs45 [] rfl ?_))))
 refine WL.cl Tryz.call54 rfl (k88_ _ _ _ _ _ (SlF.ofOwn ho42 (hs45.ow L40)) (OwnF.cap ho42) ?_) ?_
 · first | assumption | rfl | omega | (simp; omega)
 rintro _ whs58 ⟨rfl, hs58⟩
 replace hs58 := hs45.call0 hs58
 refine ⟨_, rfl, WL.nil (WC.cq rfl (fun h59 qh59 => ?_) (fun h59 qh59 => ?_))⟩
 ·refine WC.sr (WL.r 1 hs58 [] rfl ?_)
  refine WL.val rfl rfl rfl (Run.build rfl rfl rfl rfl (built_28_3 _ _ _)) ?_
  refine WL.val rfl rfl rfl (Run.build rfl rfl rfl rfl (built_58)) (WL.st tbk hs58 2 rfl rfl (fun _ hs60 => WL.st tbk hs60 1 rfl rfl (fun _ hs61 => WL.nil (WC.ret (tkR ?_)))))
  clear hK57
  refine retV2 rfl (resV.cellA tbk hs61 2 rfl rfl rfl rfl) (resV.cellA tbk hs61 1 rfl rfl rfl rfl) ?_
  have hv : vpPlain p b = (⟨0, false, [], p ++ [ub b]⟩, act0) := by unfold vpPlain; rw [if_neg hn1, if_neg (by omega), if_neg hn3, if_pos (by simpa using h59)]
  try simp only [List.nil_append] at *
  obtain ⟨L64, hs63, ho65⟩ := ownVpR.fl hs61 (OwnF.nil _ _) ho42
  have hs66 := (((hs63.fb b2).fb b4).fb b38)
  refine ⟨⟨0, false, ⟨none, 0, 0, []⟩, SlD.of ho42⟩, _, ⟨0, 0, false, ⟨none, 0, 0, []⟩⟩, _, rfl, (St.drop ((hs66.fr ([] : Hp)).fr L64) (List.Sublist.append_left (List.sublist_append_left ([] : Hp) _) L64)), ?_, ?_, ?_, ?_⟩
  · exact (by exact ho65)
  · exact (OwnF.nil _ _)
  · rw [hv]; rfl
  · rw [hv]; rfl
 refine WC.skip (hK57 _ _ (WC.sr ?_))
 refine WL.val rfl rfl rfl (Run.build rfl rfl rfl rfl (built_28)) ?_
 refine WL.val rfl rfl rfl (Run.build rfl rfl rfl rfl (built_58_0_1 _ _)) (WL.st tbk hs58 2 rfl rfl (fun _ hs68 => WL.st tbk hs68 1 rfl rfl (fun _ hs69 => WL.nil (WC.ret (retV2 rfl (resV.cellA tbk hs69 2 rfl rfl rfl rfl) (resV.cellA tbk hs69 1 rfl rfl rfl rfl) ?_)))))
 have hv : vpPlain p b = (vp0, ⟨1, 65533, false, []⟩) := by unfold vpPlain; rw [if_neg hn1, if_neg (by omega), if_neg hn3, if_neg (by simpa using h59)]
 try simp only [List.nil_append] at *
 obtain ⟨L73, hs72, ho74⟩ := ownVpR.fl hs69 (OwnF.nil _ _) (OwnF.nil _ _)
 have hs75 := (((hs72.fb b2).fb b4).fb b38)
 refine ⟨⟨0, false, ⟨none, 0, 0, []⟩, ⟨none, 0, 0, []⟩⟩, _, ⟨(1), (65533), false, ⟨none, 0, 0, []⟩⟩, _, rfl, (St.drop ((hs75.fr ([] : Hp)).fr L73) (List.Sublist.append_left (List.sublist_append_left ([] : Hp) _) L73)), ?_, ?_, ?_, ?_⟩
 · exact (by exact ho74)
 · exact (OwnF.nil _ _)
 · rw [hv]; rfl
 · rw [hv]; rfl
theorem k117_ (p : VpR) (b : Int) (w : World) (f_p : okVpR 549755813888 w p) (hn : p.Part.n ≤ 1048576) :
    Calls Tryz.prog 71 #[.agg #[i64 p.State, .bool p.Mark, .slice p.Args.A p.Args.n p.Args.c, .slice p.Part.A p.Part.n p.Part.c], i64 b] w fun e w' => ∃ r0 L0 r1 L1, e = .returned (.tuple #[.agg #[i64 r0.State, .bool r0.Mark, .slice r0.Args.A r0.Args.n r0.Args.c, .slice r0.Part.A r0.Part.n r0.Part.c], .agg #[i64 r1.Kind, i64 r1.R, .bool r1.Mark, .slice r1.Args.A r1.Args.n r1.Args.c]]) ∧ St w [] (L0 ++ L1) w' ∧ ownVpR r0 L0 ∧ ownActR r1 L1 ∧ r0.dat = (vpPlain p.Part.xs b).1 ∧ r1.dat = (vpPlain p.Part.xs b).2 := by
 have nb_p_Args := f_p.Args_n
 have nl_p_Args := f_p.Args.len
 have nb_p_Part := f_p.Part_n
 have nl_p_Part := f_p.Part.len
 have hpl := f_p.Part.len
 refine enter 51 Tryz.func71 rfl Tryz.ntmps71 rfl rfl ?_
 have hs1 := St.init w
 refine WC.sr (WL.bx hs1 rfl (fun b2 _ hs3 => WL.al hs3 Tryz.zeroValue28 rfl rfl (fun b4 _ hs5 => WL.al hs5 Tryz.zeroValue58 rfl rfl (fun b6 _ hs7 => WL.nil (WC.seq (fun K8 hK8 => WC.block (WC.sr ?_)))))))
 refine WL.r 3 hs7 [] rfl (WL.pO tbk 2 Acts.nil hs7 [] rfl rfl rfl rfl (fun g_ => trivial) (WL.r 1 hs7 [] rfl (WL.nil (WC.cq rfl (fun h9 qh9 => ?_) (fun h9 qh9 => ?_)))))
 ·refine WC.sr ?_
  refine WL.val rfl rfl rfl (Run.build rfl rfl rfl rfl (built_28)) (WL.r 1 hs7 [] rfl ?_)
  refine WL.val rfl rfl rfl (Run.build rfl rfl rfl rfl (built_58_0_1 _ _)) (WL.st tbk hs7 1 rfl rfl (fun _ hs10 => WL.st tbk hs10 0 rfl rfl (fun _ hs11 => WL.nil (WC.ret (ibR (tkR ?_))))))
  clear hK8
  refine retV2 rfl (resV.cellA tbk hs11 1 rfl rfl rfl rfl) (resV.cellA tbk hs11 0 rfl rfl rfl rfl) ?_
  have hv : vpPlain p.Part.xs b = (vp0, ⟨2, b, false, []⟩) := by unfold vpPlain; rw [if_pos (by simp at qh9; omega)]
  try simp only [List.nil_append] at *
  obtain ⟨L15, hs14, ho16⟩ := ownVpR.fl hs11 (OwnF.nil _ _) (OwnF.nil _ _)
  have hs17 := (((hs14.fb b2).fb b4).fb b6)
  refine ⟨⟨0, false, ⟨none, 0, 0, []⟩, ⟨none, 0, 0, []⟩⟩, _, ⟨(2), b, false, ⟨none, 0, 0, []⟩⟩, _, rfl, (St.drop ((hs17.fr ([] : Hp)).fr L15) (List.Sublist.append_left (List.sublist_append_left ([] : Hp) _) L15)), ?_, ?_, ?_, ?_⟩
  · exact (by exact ho16)
  · exact (OwnF.nil _ _)
  · rw [hv]; rfl
  · rw [hv]; rfl
 have hn1 : ¬ (b < 32 ∨ b = 127) := by simp at qh9; omega
 refine WC.r1 hs7 [] rfl (WC.cD rfl (fun qh19 => ?_) (fun qh19 => ?_))
 ·refine WC.sr ?_
  refine WL.val rfl rfl rfl (Run.build rfl rfl rfl rfl (built_28)) (WL.r 1 hs7 [] rfl ?_)
  refine WL.val rfl rfl rfl (Run.build rfl rfl rfl rfl (built_58_0_1 _ _)) (WL.st tbk hs7 1 rfl rfl (fun _ hs20 => WL.st tbk hs20 0 rfl rfl (fun _ hs21 => WL.nil (WC.ret (ibR (tkR ?_))))))
  clear hK8
  refine retV2 rfl (resV.cellA tbk hs21 1 rfl rfl rfl rfl) (resV.cellA tbk hs21 0 rfl rfl rfl rfl) ?_
  have hv : vpPlain p.Part.xs b = (vp0, ⟨1, b, false, []⟩) := by unfold vpPlain; rw [if_neg (by simp at *; omega), if_pos (by omega)]
  try simp only [List.nil_append] at *
  obtain ⟨L25, hs24, ho26⟩ := ownVpR.fl hs21 (OwnF.nil _ _) (OwnF.nil _ _)
  have hs27 := (((hs24.fb b2).fb b4).fb b6)
  refine ⟨⟨0, false, ⟨none, 0, 0, []⟩, ⟨none, 0, 0, []⟩⟩, _, ⟨(1), b, false, ⟨none, 0, 0, []⟩⟩, _, rfl, (St.drop ((hs27.fr ([] : Hp)).fr L25) (List.Sublist.append_left (List.sublist_append_left ([] : Hp) _) L25)), ?_, ?_, ?_, ?_⟩
  · exact (by exact ho26)
  · exact (OwnF.nil _ _)
  · rw [hv]; rfl
  · rw [hv]; rfl
 refine WC.skip (hK8 _ _ (WC.sr (WL.r 2 hs7 [2] rfl ?_)))
 refine WL.cl Tryz.call68 rfl (k17_ _ _ _ _ _ (SlF.st0 f_p.Part hs7) ?_) ?_
 · first | assumption | rfl | omega | (simp; omega)
 rintro _ whs29 ⟨A30, c31, L1_32, rfl, hs29, ho33⟩
 replace hs29 := hs7.callF hs29
 refine ⟨_, rfl, ?_⟩
 replace hs29 := St.back [_, _, _] hs29
 refine WL.r 2 hs29 [] rfl (WL.buildSlice hs29 Tryz.runUnderlying22 Tryz.sizeOf5 Tryz.zeroValue5 rfl rfl rfl rfl rfl rfl rfl rfl rfl rfl (fun b34 whs35 hs35 => ?_))
 refine WL.appendG (hs35.fr L1_32) ho33 (srcB1 Tryz.underlying22 (hs35.own _ (nthL_mem (i := 0) rfl)).1) Tryz.underlying22 inf5 rfl rfl rfl rfl rfl rfl rfl rfl rfl rfl ?_ (fun A39 c40 L36 whs37 hs37 ho38 => ?_)
 · first | omega | (simp; omega)
 replace hs37 := St.back [_, _, _, _] hs37
 refine WL.r 1 hs37 [] rfl (WL.nil (WC.seq (fun K41 hK41 => WC.sr (WL.r 1 hs37 [] rfl ?_))))
 refine WL.cl Tryz.call108 rfl (k19_ _ _ _ _ _ (SlF.ofOwn ho38 (hs37.ow L36)) (OwnF.cap ho38) ?_) ?_
 · first | assumption | rfl | omega | (simp; omega)
 rintro _ whs42 ⟨rfl, hs42⟩
 replace hs42 := hs37.call0 hs42
 refine ⟨_, rfl, WL.r 5 hs42 [] rfl (WL.nil (WC.r1 hs42 [] rfl (WC.cD rfl (fun qh43 => ?_) (fun qh43 => ?_))))⟩
 ·refine WC.sr ?_
  refine WL.val rfl rfl rfl (Run.build rfl rfl rfl rfl (built_28)) (WL.r 1 hs42 [] rfl ?_)
  refine WL.val rfl rfl rfl (Run.build rfl rfl rfl rfl (built_58_0_1 _ _)) (WL.st tbk hs42 2 rfl rfl (fun _ hs44 => WL.st tbk hs44 1 rfl rfl (fun _ hs45 => WL.nil (WC.ret (tkR ?_)))))
  clear hK41
  refine retV2 rfl (resV.cellA tbk hs45 2 rfl rfl rfl rfl) (resV.cellA tbk hs45 1 rfl rfl rfl rfl) ?_
  have hv : vpPlain p.Part.xs b = (vp0, ⟨1, rvN (runeL (p.Part.xs ++ [ub b])), false, []⟩) := by unfold vpPlain; rw [if_neg hn1, if_neg (by omega), if_pos (by simpa [← Int.ofNat_inj] using qh43)]
  try simp only [List.nil_append] at *
  obtain ⟨L49, hs48, ho50⟩ := ownVpR.fl hs45 (OwnF.nil _ _) (OwnF.nil _ _)
  have hs51 := ((((hs48.fb b2).fb b4).fb b6).fb b34)
  refine ⟨⟨0, false, ⟨none, 0, 0, []⟩, ⟨none, 0, 0, []⟩⟩, _, ⟨(1), _, false, ⟨none, 0, 0, []⟩⟩, _, rfl, (St.drop ((hs51.fr ([] : Hp)).fr L49) (List.Sublist.append_left (List.sublist_append_left ([] : Hp) _) L49)), ?_, ?_, ?_, ?_⟩
  · exact (by exact ho50)
  · exact (OwnF.nil _ _)
  · rw [hv]; rfl
  · rw [hv]; rfl
 have hn3 : ¬ rvS (runeL (p.Part.xs ++ [ub b])) = (p.Part.xs ++ [ub b]).length := by simpa [← Int.ofNat_inj] using qh43
 refine WC.skip (hK41 _ _ (WC.seq (fun K53 hK53 => WC.sr (WL.r 1 hs42 [] rfl ?_))))
 refine WL.cl Tryz.call61 rfl (k87_ _ _ _ _ _ (SlF.ofOwn ho38 (hs42.ow L36)) (OwnF.cap ho38) ?_) ?_
 · first | assumption | rfl | omega | (simp; omega)
 rintro _ whs54 ⟨rfl, hs54⟩
 replace hs54 := hs42.call0 hs54
 refine ⟨_, rfl, WL.nil (WC.cq rfl (fun h55 qh55 => ?_) (fun h55 qh55 => ?_))⟩
 ·refine WC.sr (WL.r 1 hs54 [] rfl ?_)
  refine WL.val rfl rfl rfl (Run.build rfl rfl rfl rfl (built_28_3 _ _ _)) ?_
  refine WL.val rfl rfl rfl (Run.build rfl rfl rfl rfl (built_58)) (WL.st tbk hs54 2 rfl rfl (fun _ hs56 => WL.st tbk hs56 1 rfl rfl (fun _ hs57 => WL.nil (WC.ret (tkR ?_)))))
  clear hK53
  refine retV2 rfl (resV.cellA tbk hs57 2 rfl rfl rfl rfl) (resV.cellA tbk hs57 1 rfl rfl rfl rfl) ?_
  have hv : vpPlain p.Part.xs b = (⟨0, false, [], p.Part.xs ++ [ub b]⟩, act0) := by unfold vpPlain; rw [if_neg hn1, if_neg (by omega), if_neg hn3, if_pos (by simpa using h55)]
  try simp only [List.nil_append] at *
  obtain ⟨L60, hs59, ho61⟩ := ownVpR.fl hs57 (OwnF.nil _ _) ho38
  have hs62 := ((((hs59.fb b2).fb b4).fb b6).fb b34)
  refine ⟨⟨0, false, ⟨none, 0, 0, []⟩, SlD.of ho38⟩, _, ⟨0, 0, false, ⟨none, 0, 0, []⟩⟩, _, rfl, (St.drop ((hs62.fr ([] : Hp)).fr L60) (List.Sublist.append_left (List.sublist_append_left ([] : Hp) _) L60)), ?_, ?_, ?_, ?_⟩
  · exact (by exact ho61)
  · exact (OwnF.nil _ _)
  · rw [hv]; rfl
  · rw [hv]; rfl
 refine WC.skip (hK53 _ _ (WC.sr ?_))
 refine WL.val rfl rfl rfl (Run.build rfl rfl rfl rfl (built_28)) ?_
 refine WL.val rfl rfl rfl (Run.build rfl rfl rfl rfl (built_58_0_1 _ _)) (WL.st tbk hs54 2 rfl rfl (fun _ hs64 => WL.st tbk hs64 1 rfl rfl (fun _ hs65 => WL.nil (WC.ret (retV2 rfl (resV.cellA tbk hs65 2 rfl rfl rfl rfl) (resV.cellA tbk hs65 1 rfl rfl rfl rfl) ?_)))))
 have hv : vpPlain p.Part.xs b = (vp0, ⟨1, 65533, false, []⟩) := by unfold vpPlain; rw [if_neg hn1, if_neg (by omega), if_neg hn3, if_neg (by simpa using h55)]
 try simp only [List.nil_append] at *
 obtain ⟨L69, hs68, ho70⟩ := ownVpR.fl hs65 (OwnF.nil _ _) (OwnF.nil _ _)
 have hs71 := ((((hs68.fb b2).fb b4).fb b6).fb b34)
 refine ⟨⟨0, false, ⟨none, 0, 0, []⟩, ⟨none, 0, 0, []⟩⟩, _, ⟨(1), (65533), false, ⟨none, 0, 0, []⟩⟩, _, rfl, (St.drop ((hs71.fr ([] : Hp)).fr L69) (List.Sublist.append_left (List.sublist_append_left ([] : Hp) _) L69)), ?_, ?_, ?_, ?_⟩
 · exact (by exact ho70)
 · exact (OwnF.nil _ _)
 · rw [hv]; rfl
 · rw [hv]; rfl
theorem k118_ (p : VpR) (d : Int) (w : World) (f_p : okVpR 549755813888 w p) (hsm : smVp 1048576 p.dat) (hok : areArgs p.dat.Args = true) (hd : 0 ≤ d ∧ d ≤ 9) :
    Calls Tryz.prog 109 #[.agg #[i64 p.State, .bool p.Mark, .slice p.Args.A p.Args.n p.Args.c, .slice p.Part.A p.Part.n p.Part.c], i64 d] w fun e w' => ∃ r L1, e = .returned (.agg #[i64 r.State, .bool r.Mark, .slice r.Args.A r.Args.n r.Args.c, .slice r.Part.A r.Part.n r.Part.c]) ∧ St w [] L1 w' ∧ ownVpR r L1 ∧ r.dat = vpDigit p.dat d := by
 have nb_p_Args := f_p.Args_n
 have nl_p_Args := f_p.Args.len
 have nb_p_Part := f_p.Part_n
 have nl_p_Part := f_p.Part.len
 have hsB : smVp 549755813888 p.dat := ⟨Nat.le_trans hsm.1 (by decide), Nat.le_trans hsm.2 (by decide)⟩
 have hsa : p.Args.xs.length ≤ 1048576 := hsm.1
 have hsp : p.Part.xs.length ≤ 1048576 := hsm.2
 refine enter 32 Tryz.func109 rfl Tryz.ntmps109 rfl rfl ?_
 have hs1 := St.init w
 refine WC.sr (WL.bx hs1 rfl (fun b2 _ hs3 => WL.al hs3 Tryz.zeroValue28 rfl rfl (fun b4 _ hs5 => WL.nil (WC.sr (WL.r 1 hs5 [1] rfl ?_)))))
 refine WL.cl Tryz.call34 rfl (k114_ p _ (okVpR.st0 f_p hs5) ?_) ?_
 · first | assumption | rfl | omega
 rintro _ whs6 ⟨r7, L1_8, rfl, hs6, ho9, hd10⟩
 replace hs6 := hs5.callF hs6
 refine ⟨_, rfl, ?_⟩
 replace hs6 := St.back [_, _] hs6
 have hlr := ownVpR.len ho9
 have hxr : r7.Args.xs = p.Args.xs := congrArg VpD.Args hd10
 have hpr : r7.Part.xs = p.Part.xs := congrArg VpD.Part hd10
 have hxp : p.dat.Args = p.Args.xs := rfl
 have hlx : r7.Args.xs.length = p.Args.xs.length := by rw [hxr]
 have hly : r7.Part.xs.length = p.Part.xs.length := by rw [hpr]
 refine WL.al hs6 Tryz.zeroValue28 rfl rfl (fun b11 _ hs12 => WL.st tbk hs12 0 rfl rfl (fun _ hs13 => WL.nil (WC.seq (fun K14 hK14 => WC.r1 hs13 [0] rfl ?_))))
 refine WC.cD rfl (fun qh15 => ?_) (fun qh15 => ?_)
 ·have gb : gat encI [0] ((([0] : List Int).length : Int) - 1).toNat = 0 := rfl
  refine WC.region (WL.buildF (F := encI) hs13 ([0]) Tryz.runUnderlying26 Tryz.sizeOf3 Tryz.zeroValue3 rfl rfl rfl rfl rfl rfl rfl rfl rfl rfl rfl rfl (fun A19 c20 L16 whs17 hs17 ho18 => ?_))
  replace hs17 := St.back [_, _, _] hs17
  refine WL.r 1 hs17 [] rfl (WL.st tbk hs17 0 rfl rfl (fun _ hs21 => WL.nil (hK14 _ _ (WC.sr ?_))))
  refine WL.run tbk 6 hs21 [0, 0] rfl ⟨by first | omega | (simp; done) | (simp; omega) | omega, rfl, rfl, trivial⟩ (WL.val rfl rfl rfl (Run.idx Tryz.runUnderlying26 Tryz.sizeOf3 rfl rfl rfl ?_ ?_ ?_) ?_)
  · exact SlF.some_ (SlF.ofOwn ho18 (hs21.ow L16))
  · first | omega | (simp; done) | (simp; omega) | omega
  · first | omega | (simp; done) | (simp; omega) | omega
  refine WL.r 1 hs21 [] rfl (WL.nil (WC.sr (WL.r 3 hs21 [] rfl (WL.val rfl rfl rfl (Run.load Tryz.isAgg3 rfl rfl (SlF.one1 (SlF.ofOwn ho18 (hs21.ow L16)) ?_ rfl)) ?_))))
  · first | omega | (simp; done) | (simp; omega) | omega
  refine WL.run tbk 5 hs21 [] rfl ⟨by first | omega | (simp; done) | (simp; omega) | omega, by first | omega | (simp; done) | (simp; omega) | omega, trivial⟩ (WL.storeF1 (x' := _) (hs21.fr L16) ho18 Tryz.sizeOf3 rfl rfl rfl rfl rfl rfl rfl rfl rfl ?_ rfl (fun L22 whs23 hs23 ho24 _ => ?_))
  · first | omega | (simp; done) | (simp; omega) | omega
  replace hs23 := St.back [_, _, _] hs23
  refine WL.nil (WC.sr (WL.r 1 hs23 [0] rfl (WL.st tbk hs23 1 rfl rfl (fun _ hs25 => WL.nil (WC.ret (retV1 rfl (resV.cellA tbk hs25 1 rfl rfl rfl rfl) ?_))))))
  obtain ⟨L26, L27, hs30, ho28, ho29⟩ := ownVpR.op hs25 ho9
  have hs31 := (((hs30.fb b2).fb b4).fb b11)
  obtain ⟨L33, hs32, ho34⟩ := ownVpR.fl hs31 ho24 ho29
  have hs35 := (((hs32.fb b2).fb b4).fb b11)
  refine ownVpR.ret rfl (St.keep1 (hs35.fr L33)) ho34 ?_
  · show VpD.mk r7.State r7.Mark _ r7.Part.xs = _
    rw [← hd10, vpDigit_A (show r7.dat.Args.length = 0 from (by omega : r7.Args.xs.length = 0))]; rfl
 have gb := areArgs_gat (k := ((r7.Args.n : Int) - 1).toNat) hok (by rw [hxp, ← hxr]; omega)
 rw [hxp, ← hxr] at gb
 refine WC.skip (hK14 _ _ (WC.sr ?_))
 refine WL.run tbk 6 hs13 [0, 0] rfl ⟨by first | omega | (simp; done) | (simp; omega) | omega, rfl, rfl, trivial⟩ (WL.val rfl rfl rfl (Run.idx Tryz.runUnderlying26 Tryz.sizeOf3 rfl rfl rfl ?_ ?_ ?_) ?_)
 · exact SlF.some_ (ownVpR.ok (B := 549755813888) ho9 (hs13.ow L1_8) (by rw [hd10]; assumption)).Args
 · first | omega | (simp; done) | (simp; omega) | omega
 · first | omega | (simp; done) | (simp; omega) | omega
 refine WL.r 1 hs13 [] rfl (WL.nil (WC.sr (WL.r 3 hs13 [] rfl ?_)))
 refine WL.val rfl rfl rfl (Run.load Tryz.isAgg3 rfl rfl (SlF.one1 (ownVpR.ok (B := 549755813888) ho9 (hs13.ow L1_8) (by rw [hd10]; assumption)).Args ?_ rfl)) ?_
 · first | omega | (simp; done) | (simp; omega) | omega
 refine WL.run tbk 5 hs13 [] rfl ⟨by first | omega | (simp; done) | (simp; omega) | omega, by first | omega | (simp; done) | (simp; omega) | omega, trivial⟩ ?_
 obtain ⟨L36, L37, hs40, ho38, ho39⟩ := ownVpR.op hs13 ho9
 have hs41 := (((hs40.fb b2).fb b4).fb b11)
 refine WL.storeF1 (x' := _) (hs41.fr L36) ho38 Tryz.sizeOf3 rfl rfl rfl rfl rfl rfl rfl rfl rfl ?_ rfl (fun L42 whs43 hs43 ho44 _ => ?_)
 · first | omega | (simp; done) | (simp; omega) | omega
 replace hs43 := St.back [_, _, _] hs43
 refine WL.nil (WC.sr (WL.r 1 hs43 [0] rfl (WL.st tbk hs43 1 rfl rfl (fun _ hs45 => WL.nil (WC.ret (retV1 rfl (resV.cellA tbk hs45 1 rfl rfl rfl rfl) ?_))))))
 obtain ⟨L47, hs46, ho48⟩ := ownVpR.fl hs45 ho44 ho39
 have hs49 := (((hs46.fb b2).fb b4).fb b11)
 refine ownVpR.ret rfl (St.keep1 (hs49.fr L47)) ho48 ?_
 · show VpD.mk r7.State r7.Mark (r7.Args.xs.set ((r7.Args.n : Int) - 1).toNat (min 9999 (10 * gat encI r7.Args.xs ((r7.Args.n : Int) - 1).toNat + d))) r7.Part.xs = _
   rw [← hd10, vpDigit_B (show ¬ r7.dat.Args.length = 0 from (by omega : ¬ r7.Args.xs.length = 0)), show ((r7.Args.n : Int) - 1).toNat = r7.Args.xs.length - 1 by omega]; rfl
theorem k119_ (p : VpR) (w : World) (f_p : okVpR 549755813888 w p) (hsm : smVp 1048576 p.dat) (hok : areArgs p.dat.Args = true) :
    Calls Tryz.prog 110 #[.agg #[i64 p.State, .bool p.Mark, .slice p.Args.A p.Args.n p.Args.c, .slice p.Part.A p.Part.n p.Part.c]] w fun e w' => ∃ r L1, e = .returned (.agg #[i64 r.State, .bool r.Mark, .slice r.Args.A r.Args.n r.Args.c, .slice r.Part.A r.Part.n r.Part.c]) ∧ St w [] L1 w' ∧ ownVpR r L1 ∧ r.dat = vpNext p.dat := by
 have nb_p_Args := f_p.Args_n
 have nl_p_Args := f_p.Args.len
 have nb_p_Part := f_p.Part_n
 have nl_p_Part := f_p.Part.len
 have hsB : smVp 549755813888 p.dat := ⟨Nat.le_trans hsm.1 (by decide), Nat.le_trans hsm.2 (by decide)⟩
 have hsa : p.Args.xs.length ≤ 1048576 := hsm.1
 have hsp : p.Part.xs.length ≤ 1048576 := hsm.2
 refine enter 27 Tryz.func110 rfl Tryz.ntmps110 rfl rfl ?_
 have hs1 := St.init w
 refine WC.sr (WL.bx hs1 rfl (fun b2 _ hs3 => WL.al hs3 Tryz.zeroValue28 rfl rfl (fun b4 _ hs5 => WL.nil (WC.sr (WL.r 1 hs5 [1] rfl ?_)))))
 refine WL.cl Tryz.call34 rfl (k114_ p _ (okVpR.st0 f_p hs5) ?_) ?_
 · first | assumption | rfl | omega
 rintro _ whs6 ⟨r7, L1_8, rfl, hs6, ho9, hd10⟩
 replace hs6 := hs5.callF hs6
 refine ⟨_, rfl, ?_⟩
 replace hs6 := St.back [_, _] hs6
 have hlr := ownVpR.len ho9
 have hxr : r7.Args.xs = p.Args.xs := congrArg VpD.Args hd10
 have hpr : r7.Part.xs = p.Part.xs := congrArg VpD.Part hd10
 have hxp : p.dat.Args = p.Args.xs := rfl
 have hlx : r7.Args.xs.length = p.Args.xs.length := by rw [hxr]
 have hly : r7.Part.xs.length = p.Part.xs.length := by rw [hpr]
 refine WL.al hs6 Tryz.zeroValue28 rfl rfl (fun b11 _ hs12 => WL.st tbk hs12 0 rfl rfl (fun _ hs13 => WL.nil (WC.seq (fun K14 hK14 => WC.r1 hs13 [0] rfl ?_))))
 refine WC.cD rfl (fun qh15 => ?_) (fun qh15 => ?_)
 ·refine WC.region (WL.buildF (F := encI) hs13 ([0]) Tryz.runUnderlying26 Tryz.sizeOf3 Tryz.zeroValue3 rfl rfl rfl rfl rfl rfl rfl rfl rfl rfl rfl rfl (fun A19 c20 L16 whs17 hs17 ho18 => ?_))
  replace hs17 := St.back [_, _, _] hs17
  refine WL.r 1 hs17 [] rfl (WL.st tbk hs17 0 rfl rfl (fun _ hs21 => WL.nil (hK14 _ _ (WC.seq (fun K22 hK22 => WC.sr (WL.r 2 hs21 [0] rfl (WL.buildSlice hs21 Tryz.runUnderlying26 Tryz.sizeOf3 Tryz.zeroValue3 rfl rfl rfl rfl rfl rfl rfl rfl rfl rfl (fun b23 whs24 hs24 => ?_))))))))
  refine WL.appendG (hs24.fr L16) ho18 (srcI1 Tryz.underlying26 (hs24.own _ (nthL_mem (i := 0) rfl)).1) Tryz.underlying26 inf3 rfl rfl rfl rfl rfl rfl rfl rfl rfl rfl ?_ (fun A28 c29 L25 whs26 hs26 ho27 => ?_)
  · first | omega | (simp; done) | (simp; omega) | omega
  replace hs26 := St.back [_, _, _, _] hs26
  refine WL.r 1 hs26 [] rfl (WL.st tbk hs26 1 rfl rfl (fun _ hs30 => WL.nil (WC.r1 hs30 [1] rfl ?_)))
  refine WC.cD rfl (fun qh31 => ?_) (fun qh31 => ?_)
  ·refine WC.rH (hs30.fb b11).d1 hs30 (fun _ hs32 => ?_)
   refine WH.rn [0] (hs32.fb b11).d1 [] rfl rfl (WH.o1 1 rfl (WL.r 1 hs32 [1] rfl (WL.nil ⟨(hs32.fb b11).d1, ?_⟩)))
   have ho33 := OwnF.take (k := 8) ho27 (by first | omega | (simp at *; done) | (simp at *; omega) | omega)
   have hcho33 := OwnF.cap ho33
   refine WH.take 2 rfl (by kernel_rfl) rfl rfl rfl (hs32.fb b11).d1 (fun w_ hs_ => (Run.sliceH0 (8) Tryz.runUnderlying26 Tryz.sizeOf3 rfl rfl rfl ?_ ?_)) ?_
   · first | rfl | (first | omega | (simp at *; done) | (simp at *; omega) | omega)
   · first | (exact Nat.zero_le _) | (first | omega | (simp at *; done) | (simp at *; omega) | omega)
   refine WH.rn [3] (hs32.fb b11).d1 [] rfl rfl (WH.o1 4 rfl (WL.st tbk hs32 1 rfl rfl (fun _ hs34 => WL.nil ⟨(hs34.fb b11).d1, WH.rn [5] (hs34.fb b11).d1 [] rfl rfl (WH.o1 6 rfl (WL.st tbk hs34 1 rfl rfl (fun _ hs35 => WL.nil ⟨(hs35.fb b11).d1, ?_⟩)))⟩)))
   refine WH.dn (hK22 _ _ (WC.sr (WL.r 1 hs35 [1] rfl (WL.st tbk hs35 2 rfl rfl (fun _ hs36 => WL.nil (WC.ret (retV1 rfl (resV.cellA tbk hs36 2 rfl rfl rfl rfl) ?_)))))))
   obtain ⟨L37, L38, hs41, ho39, ho40⟩ := ownVpR.op hs36 ho9
   have hs42 := ((((hs41.fb b2).fb b4).fb b11).fb b23)
   obtain ⟨L44, hs43, ho45⟩ := ownVpR.fl hs42 ho33 ho40
   have hs46 := ((((hs43.fb b2).fb b4).fb b11).fb b23)
   refine ownVpR.ret rfl (St.keep1 (hs46.fr L44)) ho45 ?_
   · exfalso; simp at qh31
  refine WC.skip (hK22 _ _ (WC.sr (WL.r 1 hs30 [1] rfl (WL.st tbk hs30 2 rfl rfl (fun _ hs47 => WL.nil (WC.ret (retV1 rfl (resV.cellA tbk hs47 2 rfl rfl rfl rfl) ?_)))))))
  obtain ⟨L48, L49, hs52, ho50, ho51⟩ := ownVpR.op hs47 ho9
  have hs53 := ((((hs52.fb b2).fb b4).fb b11).fb b23)
  obtain ⟨L55, hs54, ho56⟩ := ownVpR.fl hs53 ho27 ho51
  have hs57 := ((((hs54.fb b2).fb b4).fb b11).fb b23)
  refine ownVpR.ret rfl (St.keep1 (hs57.fr L55)) ho56 ?_
  · show VpD.mk r7.State r7.Mark _ r7.Part.xs = _
    rw [← hd10, vpNext_A (show r7.dat.Args.length = 0 from (by omega : r7.Args.xs.length = 0))]; rfl
 refine WC.skip (hK14 _ _ (WC.seq (fun K58 hK58 => WC.sr (WL.r 2 hs13 [0] rfl (WL.buildSlice hs13 Tryz.runUnderlying26 Tryz.sizeOf3 Tryz.zeroValue3 rfl rfl rfl rfl rfl rfl rfl rfl rfl rfl (fun b59 whs60 hs60 => ?_))))))
 obtain ⟨L61, L62, hs65, ho63, ho64⟩ := ownVpR.op hs60 ho9
 have hs66 := ((((hs65.fb b2).fb b4).fb b11).fb b59)
 refine WL.appendG (hs66.fr L61) ho63 (srcI1 Tryz.underlying26 (hs66.own _ (nthL_mem (i := 0) rfl)).1) Tryz.underlying26 inf3 rfl rfl rfl rfl rfl rfl rfl rfl rfl rfl ?_ (fun A70 c71 L67 whs68 hs68 ho69 => ?_)
 · first | omega | (simp; done) | (simp; omega) | omega
 replace hs68 := St.back [_, _, _, _] hs68
 refine WL.r 1 hs68 [] rfl (WL.st tbk hs68 1 rfl rfl (fun _ hs72 => WL.nil (WC.r1 hs72 [1] rfl ?_)))
 refine WC.cD rfl (fun qh73 => ?_) (fun qh73 => ?_)
 ·refine WC.rH (hs72.fb b11).d1 hs72 (fun _ hs74 => ?_)
  refine WH.rn [0] (hs74.fb b11).d1 [] rfl rfl (WH.o1 1 rfl (WL.r 1 hs74 [1] rfl (WL.nil ⟨(hs74.fb b11).d1, ?_⟩)))
  have ho75 := OwnF.take (k := 8) ho69 (by first | omega | (simp at *; done) | (simp at *; omega) | omega)
  have hcho75 := OwnF.cap ho75
  refine WH.take 2 rfl (by kernel_rfl) rfl rfl rfl (hs74.fb b11).d1 (fun w_ hs_ => (Run.sliceH0 (8) Tryz.runUnderlying26 Tryz.sizeOf3 rfl rfl rfl ?_ ?_)) ?_
  · first | rfl | (first | omega | (simp at *; done) | (simp at *; omega) | omega)
  · first | (exact Nat.zero_le _) | (first | omega | (simp at *; done) | (simp at *; omega) | omega)
  refine WH.rn [3] (hs74.fb b11).d1 [] rfl rfl (WH.o1 4 rfl (WL.st tbk hs74 1 rfl rfl (fun _ hs76 => WL.nil ⟨(hs76.fb b11).d1, WH.rn [5] (hs76.fb b11).d1 [] rfl rfl (WH.o1 6 rfl (WL.st tbk hs76 1 rfl rfl (fun _ hs77 => WL.nil ⟨(hs77.fb b11).d1, ?_⟩)))⟩)))
  refine WH.dn (hK58 _ _ (WC.sr (WL.r 1 hs77 [1] rfl (WL.st tbk hs77 2 rfl rfl (fun _ hs78 => WL.nil (WC.ret (retV1 rfl (resV.cellA tbk hs78 2 rfl rfl rfl rfl) ?_)))))))
  obtain ⟨L80, hs79, ho81⟩ := ownVpR.fl hs78 ho75 ho64
  have hs82 := ((((hs79.fb b2).fb b4).fb b11).fb b59)
  refine ownVpR.ret rfl (St.keep1 (hs82.fr L80)) ho81 ?_
  · show VpD.mk 3 r7.Mark _ r7.Part.xs = _
    rw [← hd10, vpNext_C (show 8 < r7.dat.Args.length + 1 from (by simp at qh73; omega : 8 < r7.Args.xs.length + 1))]; rfl
 refine WC.skip (hK58 _ _ (WC.sr (WL.r 1 hs72 [1] rfl (WL.st tbk hs72 2 rfl rfl (fun _ hs83 => WL.nil (WC.ret (retV1 rfl (resV.cellA tbk hs83 2 rfl rfl rfl rfl) ?_)))))))
 obtain ⟨L85, hs84, ho86⟩ := ownVpR.fl hs83 ho69 ho64
 have hs87 := ((((hs84.fb b2).fb b4).fb b11).fb b59)
 refine ownVpR.ret rfl (St.keep1 (hs87.fr L85)) ho86 ?_
 · show VpD.mk r7.State r7.Mark _ r7.Part.xs = _
   rw [← hd10, vpNext_B (show ¬ r7.dat.Args.length = 0 from (by omega : ¬ r7.Args.xs.length = 0)) (show r7.dat.Args.length + 1 ≤ 8 from (by simp at qh73; omega : r7.Args.xs.length + 1 ≤ 8))]; rfl
theorem built_58_0_1_2_3 (x0 : Int) (x1 : Int) (x2 : Bool) (x3 : Option Addr) (x4 : Nat) (x5 : Nat) : Tryz.prog.built 58 [(0, .int .i64 x0), (1, .int .i64 x1), (2, .bool x2), (3, .slice x3 x4 x5)] = some (List.toArray [.int .i64 x0, .int .i64 x1, .bool x2, .slice x3 x4 x5]) := by kernel_rfl
theorem built_28_0 (x0 : Int) : Tryz.prog.built 28 [(0, .int .i64 x0)] = some (List.toArray [.int .i64 x0, .bool false, .slice none 0 0, .slice none 0 0]) := by kernel_rfl
theorem k120_ (p : VpR) (b : Int) (w : World) (f_p : okVpR 549755813888 w p) (hsm : smVp 1048576 p.dat) (hok : areArgs p.dat.Args = true) (hb : 0 ≤ b ∧ b ≤ 255) :
    Calls Tryz.prog 72 #[.agg #[i64 p.State, .bool p.Mark, .slice p.Args.A p.Args.n p.Args.c, .slice p.Part.A p.Part.n p.Part.c], i64 b] w fun e w' => ∃ r0 L0 r1 L1, e = .returned (.tuple #[.agg #[i64 r0.State, .bool r0.Mark, .slice r0.Args.A r0.Args.n r0.Args.c, .slice r0.Part.A r0.Part.n r0.Part.c], .agg #[i64 r1.Kind, i64 r1.R, .bool r1.Mark, .slice r1.Args.A r1.Args.n r1.Args.c]]) ∧ St w [] (L0 ++ L1) w' ∧ ownVpR r0 L0 ∧ ownActR r1 L1 ∧ r0.dat = (vpCsi p.dat b).1 ∧ r1.dat = (vpCsi p.dat b).2 := by
 have nb_p_Args := f_p.Args_n
 have nl_p_Args := f_p.Args.len
 have nb_p_Part := f_p.Part_n
 have nl_p_Part := f_p.Part.len
 have hsB : smVp 549755813888 p.dat := ⟨Nat.le_trans hsm.1 (by decide), Nat.le_trans hsm.2 (by decide)⟩
 have hsa : p.Args.xs.length ≤ 1048576 := hsm.1
 have hsp : p.Part.xs.length ≤ 1048576 := hsm.2
 have hal := f_p.Args.len
 refine enter 63 Tryz.func72 rfl Tryz.ntmps72 rfl rfl ?_
 have hs1 := St.init w
 refine WC.sr (WL.bx hs1 rfl (fun b2 _ hs3 => WL.al hs3 Tryz.zeroValue28 rfl rfl (fun b4 _ hs5 => WL.al hs5 Tryz.zeroValue58 rfl rfl (fun b6 _ hs7 => WL.nil (WC.sr (WL.r 1 hs7 [2] rfl ?_))))))
 refine WL.cl Tryz.call34 rfl (k114_ p _ (okVpR.st0 f_p hs7) ?_) ?_
 · first | assumption | rfl | omega | (simp; omega)
 rintro _ whs8 ⟨r9, L1_10, rfl, hs8, ho11, hd12⟩
 replace hs8 := hs7.callF hs8
 refine ⟨_, rfl, ?_⟩
 replace hs8 := St.back [_, _, _] hs8
 have hlr := ownVpR.len ho11
 have hxr : r9.Args.xs = p.Args.xs := congrArg VpD.Args hd12
 have hpr : r9.Part.xs = p.Part.xs := congrArg VpD.Part hd12
 have hxp : p.dat.Args = p.Args.xs := rfl
 have hlx : r9.Args.xs.length = p.Args.xs.length := by rw [hxr]
 have hly : r9.Part.xs.length = p.Part.xs.length := by rw [hpr]
 skip
 refine WL.al hs8 Tryz.zeroValue28 rfl rfl (fun b13 _ hs14 => WL.st tbk hs14 0 rfl rfl (fun _ hs15 => WL.nil (WC.seq (fun K16 hK16 => WC.block (WC.sr (WL.r 3 hs15 [] rfl (WL.pA tbk 4 Acts.nil hs15 [3] rfl rfl rfl rfl (fun g_ => ⟨rfl, trivial⟩) ?_)))))))
 refine WL.r 1 hs15 [] rfl (WL.pA tbk 3 Acts.nil hs15 [3] rfl rfl rfl rfl (fun g_ => ⟨rfl, trivial⟩) (WL.r 1 hs15 [] rfl (WL.nil (WC.cq rfl (fun h17 qh17 => ?_) (fun h17 qh17 => ?_)))))
 ·have hc1 : (b = 63 ∧ p.dat.Args.length = 0) ∧ p.dat.Mark = false := by show (b = 63 ∧ p.Args.xs.length = 0) ∧ p.Mark = false; simp at qh17; exact ⟨⟨qh17.1.1, by omega⟩, qh17.2⟩
  refine WC.sr (WL.r 1 hs15 [] rfl (WL.st tbk hs15 0 rfl rfl (fun _ hs18 => WL.nil (WC.sr (WL.r 1 hs18 [0] rfl ?_)))))
  refine WL.val rfl rfl rfl (Run.build rfl rfl rfl rfl (built_58)) (WL.st tbk hs18 2 rfl rfl (fun _ hs19 => WL.st tbk hs19 1 rfl rfl (fun _ hs20 => WL.nil (WC.ret (ibR (tkR ?_))))))
  clear hK16
  refine retV2 rfl (resV.cellA tbk hs20 2 rfl rfl rfl rfl) (resV.cellA tbk hs20 1 rfl rfl rfl rfl) ?_
  have hv : vpCsi p.dat b = ({ p.dat with Mark := true }, act0) := by unfold vpCsi; rw [if_pos hc1]
  obtain ⟨L21, L22, hs25, ho23, ho24⟩ := ownVpR.op hs20 ho11
  have hs26 := ((((hs25.fb b2).fb b4).fb b6).fb b13)
  obtain ⟨L28, hs27, ho29⟩ := ownVpR.fl hs26 ho23 ho24
  have hs30 := ((((hs27.fb b2).fb b4).fb b6).fb b13)
  refine ⟨⟨r9.State, true, SlD.of ho23, SlD.of ho24⟩, _, ⟨0, 0, false, ⟨none, 0, 0, []⟩⟩, _, rfl, (St.drop ((hs30.fr ([] : Hp)).fr L28) (List.Sublist.append_left (List.sublist_append_left ([] : Hp) _) L28)), ?_, ?_, ?_, ?_⟩
  · exact (by exact ho29)
  · exact (OwnF.nil _ _)
  · rw [hv, ← hd12]; rfl
  · rw [hv]; first | exact rfl | rfl
 have hc1 : ¬ ((b = 63 ∧ p.dat.Args.length = 0) ∧ p.dat.Mark = false) := by show ¬ ((b = 63 ∧ p.Args.xs.length = 0) ∧ p.Mark = false); rintro ⟨⟨h1, h2⟩, h3⟩; rw [h3] at qh17; simp at qh17; omega
 refine WC.sr (WL.r 1 hs15 [] rfl (WL.cl Tryz.call23 rfl (k1_ _ _ _ _) ?_))
 rintro _ whs32 ⟨rfl, hs32⟩
 replace hs32 := hs15.call0 hs32
 refine ⟨_, rfl, WL.r 1 hs32 [] rfl (WL.nil (WC.cq rfl (fun h33 qh33 => ?_) (fun h33 qh33 => ?_)))⟩
 ·have hc2 : 48 ≤ b ∧ b ≤ 57 := by first | omega | (simp at qh33; omega)
  refine WC.sr (WL.r 3 hs32 [3] rfl (WL.cl Tryz.call109 rfl (k118_ p _ _ (okVpR.st0 f_p hs32) ?_ ?_ ?_) ?_))
  iterate 3 first | assumption | rfl | omega | (simp; omega)
  rintro _ whs34 ⟨r35, L1_36, rfl, hs34, ho37, hd38⟩
  replace hs34 := hs32.callF hs34
  refine ⟨_, rfl, ?_⟩
  replace hs34 := St.back [_, _, _, _] hs34
  refine WL.val rfl rfl rfl (Run.build rfl rfl rfl rfl (built_58)) (WL.st tbk hs34 2 rfl rfl (fun _ hs39 => WL.st tbk hs39 1 rfl rfl (fun _ hs40 => WL.nil (WC.ret (ibR (tkR ?_))))))
  clear hK16
  refine retV2 rfl (resV.cellA tbk hs40 2 rfl rfl rfl rfl) (resV.cellA tbk hs40 1 rfl rfl rfl rfl) ?_
  have hv : vpCsi p.dat b = (vpDigit p.dat (b - 48), act0) := by unfold vpCsi; rw [if_neg hc1, if_pos hc2]
  refine ⟨r35, _, ⟨0, 0, false, ⟨none, 0, 0, []⟩⟩, _, rfl, (St.drop ((hs40.fr ([] : Hp)).fr L1_36) (List.Sublist.append_left (List.sublist_append_left ([] : Hp) _) L1_36)), ?_, ?_, ?_, ?_⟩
  · exact ho37
  · exact (OwnF.nil _ _)
  · rw [hv]; first | exact hd38 | rfl
  · rw [hv]; first | exact rfl | rfl
 have hc2 : ¬ (48 ≤ b ∧ b ≤ 57) := by first | omega | (simp at qh33; omega)
 refine WC.r1 hs32 [] rfl (WC.cD rfl (fun qh42 => ?_) (fun qh42 => ?_))
 ·have hc3 : b = 59 := by first | omega | (simp at qh42; omega)
  refine WC.sr (WL.r 1 hs32 [3] rfl (WL.cl Tryz.call110 rfl (k119_ p _ (okVpR.st0 f_p hs32) ?_ ?_) ?_))
  iterate 2 first | assumption | rfl | omega | (simp; omega)
  rintro _ whs43 ⟨r44, L1_45, rfl, hs43, ho46, hd47⟩
  replace hs43 := hs32.callF hs43
  refine ⟨_, rfl, ?_⟩
  replace hs43 := St.back [_, _, _, _] hs43
  refine WL.val rfl rfl rfl (Run.build rfl rfl rfl rfl (built_58)) (WL.st tbk hs43 2 rfl rfl (fun _ hs48 => WL.st tbk hs48 1 rfl rfl (fun _ hs49 => WL.nil (WC.ret (ibR (tkR ?_))))))
  clear hK16
  refine retV2 rfl (resV.cellA tbk hs49 2 rfl rfl rfl rfl) (resV.cellA tbk hs49 1 rfl rfl rfl rfl) ?_
  have hv : vpCsi p.dat b = (vpNext p.dat, act0) := by unfold vpCsi; rw [if_neg hc1, if_neg hc2, if_pos hc3]
  refine ⟨r44, _, ⟨0, 0, false, ⟨none, 0, 0, []⟩⟩, _, rfl, (St.drop ((hs49.fr ([] : Hp)).fr L1_45) (List.Sublist.append_left (List.sublist_append_left ([] : Hp) _) L1_45)), ?_, ?_, ?_, ?_⟩
  · exact ho46
  · exact (OwnF.nil _ _)
  · rw [hv]; first | exact hd47 | rfl
  · rw [hv]; first | exact rfl | rfl
 have hc3 : ¬ (b = 59) := by first | omega | (simp at qh42; omega)
 refine WC.sr (WL.r 1 hs32 [] rfl (WL.cl Tryz.call23 rfl (k1_ _ _ _ _) ?_))
 rintro _ whs51 ⟨rfl, hs51⟩
 replace hs51 := hs32.call0 hs51
 refine ⟨_, rfl, WL.r 1 hs51 [] rfl (WL.nil (WC.cq rfl (fun h52 qh52 => ?_) (fun h52 qh52 => ?_)))⟩
 ·have hc4 : 64 ≤ b ∧ b ≤ 126 := by first | omega | (simp at qh52; omega)
  refine WC.seq (fun K53 hK53 => WC.rH ((hs51.fb b6).d1.fb b4).d1 hs51 (fun _ hs54 => ?_))
  refine WH.take 0 rfl (by kernel_rfl) rfl rfl rfl ((hs54.fb b6).d1.fb b4).d1 (fun w_ hs_ => (Run.build rfl rfl rfl rfl (built_28))) ?_
  refine WH.rn [1, 2, 3, 4, 5] ((hs54.fb b6).d1.fb b4).d1 [1, 0] rfl rfl ?_
  refine WH.take 6 rfl (by kernel_rfl) rfl rfl rfl ((hs54.fb b6).d1.fb b4).d1 (fun w_ hs_ => (Run.build rfl rfl rfl rfl (built_58_0_1_2_3 _ _ _ _ _ _))) ?_
  refine WH.o1 7 rfl (WL.st tbk hs54 2 rfl rfl (fun _ hs55 => WL.nil ⟨((hs55.fb b6).d1.fb b4).d1, WH.o1 8 rfl (WL.st tbk hs55 1 rfl rfl (fun _ hs56 => WL.nil ⟨((hs56.fb b6).d1.fb b4).d1, WH.dn (hK53 _ _ ?_)⟩))⟩))
  refine WC.ret (ibR (tkR ?_))
  clear hK16
  refine retV2 rfl (resV.cellA tbk hs56 2 rfl rfl rfl rfl) (resV.cellA tbk hs56 1 rfl rfl rfl rfl) ?_
  have hv : vpCsi p.dat b = (vp0, ⟨4, b, p.dat.Mark, p.dat.Args⟩) := by unfold vpCsi; rw [if_neg hc1, if_neg hc2, if_neg hc3, if_pos hc4]
  obtain ⟨L60, hs59, ho61⟩ := ownVpR.fl hs56 (OwnF.nil _ _) (OwnF.nil _ _)
  have hs62 := ((((hs59.fb b2).fb b4).fb b6).fb b13)
  obtain ⟨L63, L64, hs67, ho65, ho66⟩ := ownVpR.op hs62 ho11
  have hs68 := ((((hs67.fb b2).fb b4).fb b6).fb b13)
  refine ⟨⟨0, false, ⟨none, 0, 0, []⟩, ⟨none, 0, 0, []⟩⟩, _, ⟨(4), b, p.Mark, SlD.of ho65⟩, _, rfl, (St.drop ((hs68.fr L63).fr L60) (List.Sublist.append_left (List.sublist_append_left L63 _) L60)), ?_, ?_, ?_, ?_⟩
  · exact (by exact ho61)
  · exact ho65
  · rw [hv]; rfl
  · rw [hv]; exact ActD.ext' rfl rfl rfl hxr
 have hc4 : ¬ (64 ≤ b ∧ b ≤ 126) := by first | omega | (simp at qh52; omega)
 refine WC.sr (WL.r 3 hs51 [] rfl (WL.pO tbk 2 Acts.nil hs51 [] rfl rfl rfl rfl (fun g_ => trivial) (WL.r 1 hs51 [] rfl (WL.nil (WC.cq rfl (fun h69 qh69 => ?_) (fun h69 qh69 => ?_))))))
 ·have hc5 : b < 32 ∨ b = 127 := by first | omega | (simp at qh69; omega)
  refine WC.sr (WL.r 2 hs51 [0] rfl ?_)
  refine WL.val rfl rfl rfl (Run.build rfl rfl rfl rfl (built_58_0_1 _ _)) (WL.st tbk hs51 2 rfl rfl (fun _ hs70 => WL.st tbk hs70 1 rfl rfl (fun _ hs71 => WL.nil (WC.ret (ibR (tkR ?_))))))
  clear hK16
  refine retV2 rfl (resV.cellA tbk hs71 2 rfl rfl rfl rfl) (resV.cellA tbk hs71 1 rfl rfl rfl rfl) ?_
  have hv : vpCsi p.dat b = (p.dat, ⟨2, b, false, []⟩) := by unfold vpCsi; rw [if_neg hc1, if_neg hc2, if_neg hc3, if_neg hc4, if_pos hc5]
  refine ⟨r9, _, ⟨(2), b, false, ⟨none, 0, 0, []⟩⟩, _, rfl, (St.drop ((hs71.fr ([] : Hp)).fr L1_10) (List.Sublist.append_left (List.sublist_append_left ([] : Hp) _) L1_10)), ?_, ?_, ?_, ?_⟩
  · exact ho11
  · exact (OwnF.nil _ _)
  · rw [hv]; exact hd12
  · rw [hv]; first | exact rfl | rfl
 have hc5 : ¬ (b < 32 ∨ b = 127) := by first | omega | (simp at qh69; omega)
 refine WC.skip (hK16 _ _ (WC.sr (WL.r 1 hs51 [] rfl (WL.st tbk hs51 0 rfl rfl (fun _ hs73 => WL.nil (WC.sr (WL.r 1 hs73 [0] rfl ?_)))))))
 refine WL.val rfl rfl rfl (Run.build rfl rfl rfl rfl (built_58)) (WL.st tbk hs73 2 rfl rfl (fun _ hs74 => WL.st tbk hs74 1 rfl rfl (fun _ hs75 => WL.nil (WC.ret (retV2 rfl (resV.cellA tbk hs75 2 rfl rfl rfl rfl) (resV.cellA tbk hs75 1 rfl rfl rfl rfl) ?_)))))
 have hv : vpCsi p.dat b = ({ p.dat with State := 3 }, act0) := by unfold vpCsi; rw [if_neg hc1, if_neg hc2, if_neg hc3, if_neg hc4, if_neg hc5]
 obtain ⟨L76, L77, hs80, ho78, ho79⟩ := ownVpR.op hs75 ho11
 have hs81 := ((((hs80.fb b2).fb b4).fb b6).fb b13)
 obtain ⟨L83, hs82, ho84⟩ := ownVpR.fl hs81 ho78 ho79
 have hs85 := ((((hs82.fb b2).fb b4).fb b6).fb b13)
 refine ⟨⟨(3), r9.Mark, SlD.of ho78, SlD.of ho79⟩, _, ⟨0, 0, false, ⟨none, 0, 0, []⟩⟩, _, rfl, (St.drop ((hs85.fr ([] : Hp)).fr L83) (List.Sublist.append_left (List.sublist_append_left ([] : Hp) _) L83)), ?_, ?_, ?_, ?_⟩
 · exact (by exact ho84)
 · exact (OwnF.nil _ _)
 · rw [hv, ← hd12]; rfl
 · rw [hv]; first | exact rfl | rfl
theorem k121_ (p : VpR) (b : Int) (w : World) (f_p : okVpR 549755813888 w p) (hsm : smVp 1048576 p.dat) (hok : vpOk p.dat = true) (hb : 0 ≤ b ∧ b ≤ 255) :
    Calls Tryz.prog 36 #[.agg #[i64 p.State, .bool p.Mark, .slice p.Args.A p.Args.n p.Args.c, .slice p.Part.A p.Part.n p.Part.c], i64 b] w fun e w' => ∃ r0 L0 r1 L1, e = .returned (.tuple #[.agg #[i64 r0.State, .bool r0.Mark, .slice r0.Args.A r0.Args.n r0.Args.c, .slice r0.Part.A r0.Part.n r0.Part.c], .agg #[i64 r1.Kind, i64 r1.R, .bool r1.Mark, .slice r1.Args.A r1.Args.n r1.Args.c]]) ∧ St w [] (L0 ++ L1) w' ∧ ownVpR r0 L0 ∧ ownActR r1 L1 ∧ r0.dat = (vpStep p.dat b).1 ∧ r1.dat = (vpStep p.dat b).2 := by
 have nb_p_Args := f_p.Args_n
 have nl_p_Args := f_p.Args.len
 have nb_p_Part := f_p.Part_n
 have nl_p_Part := f_p.Part.len
 have hsB : smVp 549755813888 p.dat := ⟨Nat.le_trans hsm.1 (by decide), Nat.le_trans hsm.2 (by decide)⟩
 have hsa : p.Args.xs.length ≤ 1048576 := hsm.1
 have hsp : p.Part.xs.length ≤ 1048576 := hsm.2
 refine enter 58 Tryz.func36 rfl Tryz.ntmps36 rfl rfl ?_
 have hs1 := St.init w
 refine WC.sr (WL.bx hs1 rfl (fun b2 _ hs3 => WL.al hs3 Tryz.zeroValue28 rfl rfl (fun b4 _ hs5 => WL.al hs5 Tryz.zeroValue58 rfl rfl (fun b6 _ hs7 => WL.nil (WC.seq (fun K8 hK8 => WC.block (WC.r1 hs7 [] rfl ?_)))))))
 refine WC.cD rfl (fun qh9 => ?_) (fun qh9 => ?_)
 ·have k1 : b = 27 := by first | exact qh9 | omega | (simp at qh9; omega)
  refine WC.sr ?_
  refine WL.val rfl rfl rfl (Run.build rfl rfl rfl rfl (built_28_0 _)) ?_
  refine WL.val rfl rfl rfl (Run.build rfl rfl rfl rfl (built_58)) (WL.st tbk hs7 1 rfl rfl (fun _ hs10 => WL.st tbk hs10 0 rfl rfl (fun _ hs11 => WL.nil (WC.ret (ibR (tkR ?_))))))
  clear hK8
  refine retV2 rfl (resV.cellA tbk hs11 1 rfl rfl rfl rfl) (resV.cellA tbk hs11 0 rfl rfl rfl rfl) ?_
  have hv : vpStep p.dat b = (⟨1, false, [], []⟩, act0) := by unfold vpStep; rw [if_pos k1]
  obtain ⟨L15, hs14, ho16⟩ := ownVpR.fl hs11 (OwnF.nil _ _) (OwnF.nil _ _)
  have hs17 := (((hs14.fb b2).fb b4).fb b6)
  refine ⟨⟨(1), false, ⟨none, 0, 0, []⟩, ⟨none, 0, 0, []⟩⟩, _, ⟨0, 0, false, ⟨none, 0, 0, []⟩⟩, _, rfl, (St.drop ((hs17.fr ([] : Hp)).fr L15) (List.Sublist.append_left (List.sublist_append_left ([] : Hp) _) L15)), ?_, ?_, ?_, ?_⟩
  · exact (by exact ho16)
  · exact (OwnF.nil _ _)
  · rw [hv]; first | exact rfl | rfl
  · rw [hv]; first | exact rfl | rfl
 have k1 : ¬ (b = 27) := by first | exact qh9 | omega | (simp at qh9; omega)
 refine WC.sr (WL.r 3 hs7 [] rfl (WL.pO tbk 2 Acts.nil hs7 [] rfl rfl rfl rfl (fun g_ => trivial) (WL.r 1 hs7 [] rfl (WL.nil (WC.cq rfl (fun h19 qh19 => ?_) (fun h19 qh19 => ?_))))))
 ·have k2 : b = 24 ∨ b = 26 := by first | exact qh19 | omega | (simp at qh19; omega)
  refine WC.sr ?_
  refine WL.val rfl rfl rfl (Run.build rfl rfl rfl rfl (built_28)) ?_
  refine WL.val rfl rfl rfl (Run.build rfl rfl rfl rfl (built_58)) (WL.st tbk hs7 1 rfl rfl (fun _ hs20 => WL.st tbk hs20 0 rfl rfl (fun _ hs21 => WL.nil (WC.ret (ibR (tkR ?_))))))
  clear hK8
  refine retV2 rfl (resV.cellA tbk hs21 1 rfl rfl rfl rfl) (resV.cellA tbk hs21 0 rfl rfl rfl rfl) ?_
  have hv : vpStep p.dat b = (vp0, act0) := by unfold vpStep; rw [if_neg k1, if_pos k2]
  obtain ⟨L25, hs24, ho26⟩ := ownVpR.fl hs21 (OwnF.nil _ _) (OwnF.nil _ _)
  have hs27 := (((hs24.fb b2).fb b4).fb b6)
  refine ⟨⟨0, false, ⟨none, 0, 0, []⟩, ⟨none, 0, 0, []⟩⟩, _, ⟨0, 0, false, ⟨none, 0, 0, []⟩⟩, _, rfl, (St.drop ((hs27.fr ([] : Hp)).fr L25) (List.Sublist.append_left (List.sublist_append_left ([] : Hp) _) L25)), ?_, ?_, ?_, ?_⟩
  · exact (by exact ho26)
  · exact (OwnF.nil _ _)
  · rw [hv]; first | exact rfl | rfl
  · rw [hv]; first | exact rfl | rfl
 have k2 : ¬ (b = 24 ∨ b = 26) := by first | exact qh19 | omega | (simp at qh19; omega)
 refine WC.skip (hK8 _ _ (WC.seq (fun K29 hK29 => WC.r1 hs7 [2] rfl (WC.block (WC.r1 hs7 [] rfl ?_)))))
 refine WC.cD rfl (fun qh30 => ?_) (fun qh30 => ?_)
 ·have k3 : p.dat.State = 0 := by show p.State = 0; first | exact qh30 | omega | (simp at qh30; omega)
  refine WC.sr (WL.r 2 hs7 [2] rfl (WL.cl Tryz.call71 rfl (k117_ p _ _ (okVpR.st0 f_p hs7) ?_) ?_))
  · first | assumption | rfl | omega | (simp; omega)
  rintro _ whs31 ⟨r0_32, L0_33, r1_34, L1_35, rfl, hs31, ho36, ho37, hd0_38, hd1_39⟩
  replace hs31 := hs7.callF hs31
  refine ⟨_, rfl, ?_⟩
  replace hs31 := St.assoc hs31
  replace hs31 := St.back2 [_, _, _] hs31
  refine WL.r 2 hs31 [] rfl (WL.st tbk hs31 1 rfl rfl (fun _ hs40 => WL.st tbk hs40 0 rfl rfl (fun _ hs41 => WL.nil (WC.ret (ibR (tkR ?_))))))
  clear hK29
  refine retV2 rfl (resV.cellA tbk hs41 1 rfl rfl rfl rfl) (resV.cellA tbk hs41 0 rfl rfl rfl rfl) ?_
  have hv : vpStep p.dat b = vpPlain p.dat.Part b := by unfold vpStep; rw [if_neg k1, if_neg k2, if_pos k3]
  refine ⟨r0_32, _, r1_34, _, rfl, (St.drop ((hs41.fr L1_35).fr L0_33) (List.Sublist.append_left (List.sublist_append_left L1_35 _) L0_33)), ?_, ?_, ?_, ?_⟩
  · exact ho36
  · exact ho37
  · rw [hv]; first | exact hd0_38 | rfl
  · rw [hv]; first | exact hd1_39 | rfl
 have k3 : ¬ (p.dat.State = 0) := by show ¬ (p.State = 0); first | exact qh30 | omega | (simp at qh30; omega)
 refine WC.r1 hs7 [] rfl (WC.cD rfl (fun qh42 => ?_) (fun qh42 => ?_))
 ·have k4 : p.dat.State = 1 := by show p.State = 1; first | exact qh42 | omega | (simp at qh42; omega)
  refine WC.seq (fun K43 hK43 => WC.block (WC.r1 hs7 [] rfl ?_))
  refine WC.cD rfl (fun qh44 => ?_) (fun qh44 => ?_)
  ·have k5 : b = 91 := by first | exact qh44 | omega | (simp at qh44; omega)
   refine WC.sr ?_
   refine WL.val rfl rfl rfl (Run.build rfl rfl rfl rfl (built_28_0 _)) ?_
   refine WL.val rfl rfl rfl (Run.build rfl rfl rfl rfl (built_58)) (WL.st tbk hs7 1 rfl rfl (fun _ hs45 => WL.st tbk hs45 0 rfl rfl (fun _ hs46 => WL.nil (WC.ret (ibR (tkR (ibR (tkR ?_))))))))
   clear hK43 hK29
   refine retV2 rfl (resV.cellA tbk hs46 1 rfl rfl rfl rfl) (resV.cellA tbk hs46 0 rfl rfl rfl rfl) ?_
   have hv : vpStep p.dat b = (⟨2, false, [], []⟩, act0) := by unfold vpStep; rw [if_neg k1, if_neg k2, if_neg k3, if_pos k4, if_pos k5]
   obtain ⟨L50, hs49, ho51⟩ := ownVpR.fl hs46 (OwnF.nil _ _) (OwnF.nil _ _)
   have hs52 := (((hs49.fb b2).fb b4).fb b6)
   refine ⟨⟨(2), false, ⟨none, 0, 0, []⟩, ⟨none, 0, 0, []⟩⟩, _, ⟨0, 0, false, ⟨none, 0, 0, []⟩⟩, _, rfl, (St.drop ((hs52.fr ([] : Hp)).fr L50) (List.Sublist.append_left (List.sublist_append_left ([] : Hp) _) L50)), ?_, ?_, ?_, ?_⟩
   · exact (by exact ho51)
   · exact (OwnF.nil _ _)
   · rw [hv]; first | exact rfl | rfl
   · rw [hv]; first | exact rfl | rfl
  have k5 : ¬ (b = 91) := by first | exact qh44 | omega | (simp at qh44; omega)
  refine WC.sr (WL.r 1 hs7 [] rfl (WL.cl Tryz.call23 rfl (k1_ _ _ _ _) ?_))
  rintro _ whs54 ⟨rfl, hs54⟩
  replace hs54 := hs7.call0 hs54
  refine ⟨_, rfl, WL.r 1 hs54 [] rfl (WL.nil (WC.cq rfl (fun h55 qh55 => ?_) (fun h55 qh55 => ?_)))⟩
  ·have k6 : 48 ≤ b ∧ b ≤ 126 := by first | exact qh55 | omega | (simp at qh55; omega)
   refine WC.sr ?_
   refine WL.val rfl rfl rfl (Run.build rfl rfl rfl rfl (built_28)) (WL.r 1 hs54 [] rfl ?_)
   refine WL.val rfl rfl rfl (Run.build rfl rfl rfl rfl (built_58_0_1 _ _)) (WL.st tbk hs54 1 rfl rfl (fun _ hs56 => WL.st tbk hs56 0 rfl rfl (fun _ hs57 => WL.nil (WC.ret (ibR (tkR (ibR (tkR ?_))))))))
   clear hK43 hK29
   refine retV2 rfl (resV.cellA tbk hs57 1 rfl rfl rfl rfl) (resV.cellA tbk hs57 0 rfl rfl rfl rfl) ?_
   have hv : vpStep p.dat b = (vp0, ⟨3, b, false, []⟩) := by unfold vpStep; rw [if_neg k1, if_neg k2, if_neg k3, if_pos k4, if_neg k5, if_pos k6]
   obtain ⟨L61, hs60, ho62⟩ := ownVpR.fl hs57 (OwnF.nil _ _) (OwnF.nil _ _)
   have hs63 := (((hs60.fb b2).fb b4).fb b6)
   refine ⟨⟨0, false, ⟨none, 0, 0, []⟩, ⟨none, 0, 0, []⟩⟩, _, ⟨(3), b, false, ⟨none, 0, 0, []⟩⟩, _, rfl, (St.drop ((hs63.fr ([] : Hp)).fr L61) (List.Sublist.append_left (List.sublist_append_left ([] : Hp) _) L61)), ?_, ?_, ?_, ?_⟩
   · exact (by exact ho62)
   · exact (OwnF.nil _ _)
   · rw [hv]; first | exact rfl | rfl
   · rw [hv]; first | exact rfl | rfl
  have k6 : ¬ (48 ≤ b ∧ b ≤ 126) := by first | exact qh55 | omega | (simp at qh55; omega)
  refine WC.skip (hK43 _ _ (WC.sr ?_))
  refine WL.val rfl rfl rfl (Run.build rfl rfl rfl rfl (built_28)) ?_
  refine WL.val rfl rfl rfl (Run.build rfl rfl rfl rfl (built_58)) (WL.st tbk hs54 1 rfl rfl (fun _ hs65 => WL.st tbk hs65 0 rfl rfl (fun _ hs66 => WL.nil (WC.ret (ibR (tkR ?_))))))
  clear hK29
  refine retV2 rfl (resV.cellA tbk hs66 1 rfl rfl rfl rfl) (resV.cellA tbk hs66 0 rfl rfl rfl rfl) ?_
  have hv : vpStep p.dat b = (vp0, act0) := by unfold vpStep; rw [if_neg k1, if_neg k2, if_neg k3, if_pos k4, if_neg k5, if_neg k6]
  obtain ⟨L70, hs69, ho71⟩ := ownVpR.fl hs66 (OwnF.nil _ _) (OwnF.nil _ _)
  have hs72 := (((hs69.fb b2).fb b4).fb b6)
  refine ⟨⟨0, false, ⟨none, 0, 0, []⟩, ⟨none, 0, 0, []⟩⟩, _, ⟨0, 0, false, ⟨none, 0, 0, []⟩⟩, _, rfl, (St.drop ((hs72.fr ([] : Hp)).fr L70) (List.Sublist.append_left (List.sublist_append_left ([] : Hp) _) L70)), ?_, ?_, ?_, ?_⟩
  · exact (by exact ho71)
  · exact (OwnF.nil _ _)
  · rw [hv]; first | exact rfl | rfl
  · rw [hv]; first | exact rfl | rfl
 have k4 : ¬ (p.dat.State = 1) := by show ¬ (p.State = 1); first | exact qh42 | omega | (simp at qh42; omega)
 refine WC.r1 hs7 [] rfl (WC.cD rfl (fun qh74 => ?_) (fun qh74 => ?_))
 ·have k7 : p.dat.State = 2 := by show p.State = 2; first | exact qh74 | omega | (simp at qh74; omega)
  have hoa : areArgs p.dat.Args = true := by have h_ := hok; rw [vpOk_csi (.inl k7), Bool.and_eq_true] at h_; exact h_.1
  refine WC.sr (WL.r 2 hs7 [2] rfl (WL.cl Tryz.call72 rfl (k120_ p _ _ (okVpR.st0 f_p hs7) ?_ ?_ ?_) ?_))
  iterate 3 first | assumption | rfl | omega | (simp; omega)
  rintro _ whs75 ⟨r0_76, L0_77, r1_78, L1_79, rfl, hs75, ho80, ho81, hd0_82, hd1_83⟩
  replace hs75 := hs7.callF hs75
  refine ⟨_, rfl, ?_⟩
  replace hs75 := St.assoc hs75
  replace hs75 := St.back2 [_, _, _] hs75
  refine WL.r 2 hs75 [] rfl (WL.st tbk hs75 1 rfl rfl (fun _ hs84 => WL.st tbk hs84 0 rfl rfl (fun _ hs85 => WL.nil (WC.ret (ibR (tkR ?_))))))
  clear hK29
  refine retV2 rfl (resV.cellA tbk hs85 1 rfl rfl rfl rfl) (resV.cellA tbk hs85 0 rfl rfl rfl rfl) ?_
  have hv : vpStep p.dat b = vpCsi p.dat b := by unfold vpStep; rw [if_neg k1, if_neg k2, if_neg k3, if_neg k4, if_pos k7]
  refine ⟨r0_76, _, r1_78, _, rfl, (St.drop ((hs85.fr L1_79).fr L0_77) (List.Sublist.append_left (List.sublist_append_left L1_79 _) L0_77)), ?_, ?_, ?_, ?_⟩
  · exact ho80
  · exact ho81
  · rw [hv]; first | exact hd0_82 | rfl
  · rw [hv]; first | exact hd1_83 | rfl
 have k7 : ¬ (p.dat.State = 2) := by show ¬ (p.State = 2); first | exact qh74 | omega | (simp at qh74; omega)
 refine WC.skip (hK29 _ _ (WC.seq (fun K86 hK86 => WC.sr (WL.r 1 hs7 [] rfl (WL.cl Tryz.call23 rfl (k1_ _ _ _ _) ?_)))))
 rintro _ whs87 ⟨rfl, hs87⟩
 replace hs87 := hs7.call0 hs87
 refine ⟨_, rfl, WL.nil (WC.cq rfl (fun h88 qh88 => ?_) (fun h88 qh88 => ?_))⟩
 ·have k8 : 64 ≤ b ∧ b ≤ 126 := by first | exact qh88 | omega | (simp at qh88; omega)
  refine WC.sr ?_
  refine WL.val rfl rfl rfl (Run.build rfl rfl rfl rfl (built_28)) ?_
  refine WL.val rfl rfl rfl (Run.build rfl rfl rfl rfl (built_58)) (WL.st tbk hs87 1 rfl rfl (fun _ hs89 => WL.st tbk hs89 0 rfl rfl (fun _ hs90 => WL.nil (WC.ret (tkR ?_)))))
  clear hK86
  refine retV2 rfl (resV.cellA tbk hs90 1 rfl rfl rfl rfl) (resV.cellA tbk hs90 0 rfl rfl rfl rfl) ?_
  have hv : vpStep p.dat b = (vp0, act0) := by unfold vpStep; rw [if_neg k1, if_neg k2, if_neg k3, if_neg k4, if_neg k7, if_pos k8]
  obtain ⟨L94, hs93, ho95⟩ := ownVpR.fl hs90 (OwnF.nil _ _) (OwnF.nil _ _)
  have hs96 := (((hs93.fb b2).fb b4).fb b6)
  refine ⟨⟨0, false, ⟨none, 0, 0, []⟩, ⟨none, 0, 0, []⟩⟩, _, ⟨0, 0, false, ⟨none, 0, 0, []⟩⟩, _, rfl, (St.drop ((hs96.fr ([] : Hp)).fr L94) (List.Sublist.append_left (List.sublist_append_left ([] : Hp) _) L94)), ?_, ?_, ?_, ?_⟩
  · exact (by exact ho95)
  · exact (OwnF.nil _ _)
  · rw [hv]; first | exact rfl | rfl
  · rw [hv]; first | exact rfl | rfl
 have k8 : ¬ (64 ≤ b ∧ b ≤ 126) := by first | exact qh88 | omega | (simp at qh88; omega)
 refine WC.skip (hK86 _ _ (WC.sr (WL.r 1 hs87 [2] rfl ?_)))
 refine WL.cl Tryz.call34 rfl (k114_ p _ (okVpR.st0 f_p hs87) ?_) ?_
 · first | assumption | rfl | omega | (simp; omega)
 rintro _ whs98 ⟨r99, L1_100, rfl, hs98, ho101, hd102⟩
 replace hs98 := hs87.callF hs98
 refine ⟨_, rfl, ?_⟩
 replace hs98 := St.back [_, _, _] hs98
 refine WL.val rfl rfl rfl (Run.build rfl rfl rfl rfl (built_58)) (WL.st tbk hs98 1 rfl rfl (fun _ hs103 => WL.st tbk hs103 0 rfl rfl (fun _ hs104 => WL.nil (WC.ret (retV2 rfl (resV.cellA tbk hs104 1 rfl rfl rfl rfl) (resV.cellA tbk hs104 0 rfl rfl rfl rfl) ?_)))))
 have hv : vpStep p.dat b = (p.dat, act0) := by unfold vpStep; rw [if_neg k1, if_neg k2, if_neg k3, if_neg k4, if_neg k7, if_neg k8]
 refine ⟨r99, _, ⟨0, 0, false, ⟨none, 0, 0, []⟩⟩, _, rfl, (St.drop ((hs104.fr ([] : Hp)).fr L1_100) (List.Sublist.append_left (List.sublist_append_left ([] : Hp) _) L1_100)), ?_, ?_, ?_, ?_⟩
 · exact ho101
 · exact (OwnF.nil _ _)
 · rw [hv]; first | exact hd102 | rfl
 · rw [hv]; first | exact rfl | rfl
theorem k122_ (p : VpR) (L_p : Hp) (b : Int) (w : World) (o_p : ownVpR p L_p) (h_p : Hh w L_p) (hd_ : ((L_p).map (·.1)).Nodup) (hsm : smVp 1048576 p.dat) (hok : areArgs p.dat.Args = true) (hb : 0 ≤ b ∧ b ≤ 255) :
    Calls Tryz.prog 131 #[.agg #[i64 p.State, .bool p.Mark, .slice p.Args.A p.Args.n p.Args.c, .slice p.Part.A p.Part.n p.Part.c], i64 b] w fun e w' => ∃ r0 L0 r1 L1, e = .returned (.tuple #[.agg #[i64 r0.State, .bool r0.Mark, .slice r0.Args.A r0.Args.n r0.Args.c, .slice r0.Part.A r0.Part.n r0.Part.c], .agg #[i64 r1.Kind, i64 r1.R, .bool r1.Mark, .slice r1.Args.A r1.Args.n r1.Args.c]]) ∧ St w (L_p.map (·.1)) (L0 ++ L1) w' ∧ ownVpR r0 L0 ∧ ownActR r1 L1 ∧ r0.dat = (vpCsi p.dat b).1 ∧ r1.dat = (vpCsi p.dat b).2 := by
 have hsB : smVp 549755813888 p.dat := ⟨Nat.le_trans hsm.1 (by decide), Nat.le_trans hsm.2 (by decide)⟩
 have hsa : p.Args.xs.length ≤ 1048576 := hsm.1
 have hsp : p.Part.xs.length ≤ 1048576 := hsm.2
 obtain ⟨hal, hpl⟩ := ownVpR.len o_p
 have h88 : p.Args.xs.length ≤ 8 := (areArgs_iff.1 hok).1
 refine enter 109 Tryz.func131 rfl Tryz.ntmps131 rfl rfl ?_
 have hs1 := St.takes1 w L_p h_p hd_
 refine WC.sr (WL.bx hs1 rfl (fun b2 _ hs3 => WL.al hs3 Tryz.zeroValue28 rfl rfl (fun b4 _ hs5 => WL.al hs5 Tryz.zeroValue58 rfl rfl (fun b6 _ hs7 => WL.nil (WC.seq (fun K8 hK8 => WC.block (WC.sr ?_)))))))
 refine WL.r 3 hs7 [] rfl (WL.pA tbk 4 Acts.nil hs7 [2] rfl rfl rfl rfl (fun g_ => ⟨rfl, trivial⟩) (WL.r 1 hs7 [] rfl (WL.pA tbk 3 Acts.nil hs7 [2] rfl rfl rfl rfl (fun g_ => ⟨rfl, trivial⟩) (WL.r 1 hs7 [] rfl (WL.nil (WC.cq rfl (fun h9 qh9 => ?_) (fun h9 qh9 => ?_)))))))
 ·have hc1 : (b = 63 ∧ p.dat.Args.length = 0) ∧ p.dat.Mark = false := by show (b = 63 ∧ p.Args.xs.length = 0) ∧ p.Mark = false; simp at qh9; exact ⟨⟨qh9.1.1, by omega⟩, qh9.2⟩
  refine WC.region (WL.r 1 hs7 [] rfl (WL.st tbk hs7 2 rfl rfl (fun _ hs10 => WL.nil (hK8 _ _ (WC.sr (WL.r 1 hs10 [2] rfl ?_))))))
  refine WL.val rfl rfl rfl (Run.build rfl rfl rfl rfl (built_58)) (WL.st tbk hs10 1 rfl rfl (fun _ hs11 => WL.st tbk hs11 0 rfl rfl (fun _ hs12 => WL.nil (WC.ret (retV2 rfl (resV.cellA tbk hs12 1 rfl rfl rfl rfl) (resV.cellA tbk hs12 0 rfl rfl rfl rfl) ?_)))))
  have hv : vpCsi p.dat b = ({ p.dat with Mark := true }, act0) := by unfold vpCsi; rw [if_pos hc1]
  obtain ⟨L13, L14, hs17, ho15, ho16⟩ := ownVpR.op hs12 o_p
  have hs18 := (((hs17.fb b2).fb b4).fb b6)
  obtain ⟨L20, hs19, ho21⟩ := ownVpR.fl hs18 ho15 ho16
  have hs22 := (((hs19.fb b2).fb b4).fb b6)
  refine ⟨⟨p.State, true, SlD.of ho15, SlD.of ho16⟩, _, ⟨0, 0, false, ⟨none, 0, 0, []⟩⟩, _, rfl, (St.drop ((hs22.fr ([] : Hp)).fr L20) (List.Sublist.append_left (List.sublist_append_left ([] : Hp) _) L20)), ?_, ?_, ?_, ?_⟩
  · exact (by exact ho21)
  · exact (OwnF.nil _ _)
  · rw [hv]; rfl
  · rw [hv]; first | done | rfl
 have hc1 : ¬ ((b = 63 ∧ p.dat.Args.length = 0) ∧ p.dat.Mark = false) := by show ¬ ((b = 63 ∧ p.Args.xs.length = 0) ∧ p.Mark = false); rintro ⟨⟨h1, h2⟩, h3⟩; rw [h3] at qh9; simp at qh9; omega
 refine WC.sr (WL.r 3 hs7 [] rfl (WL.pA tbk 2 Acts.nil hs7 [] rfl rfl rfl rfl (fun g_ => trivial) (WL.r 1 hs7 [] rfl (WL.nil (WC.cq rfl (fun h24 qh24 => ?_) (fun h24 qh24 => ?_))))))
 ·have hc2 : 48 ≤ b ∧ b ≤ 57 := by first | omega | (simp at qh24; omega)
  refine WC.seq (fun K25 hK25 => WC.r1 hs7 [2] rfl ?_)
  refine WC.cD rfl (fun qh26 => ?_) (fun qh26 => ?_)
  ·have gb : 0 ≤ gat encI (p.Args.xs ++ [0]) (((p.Args.xs ++ [0]).length : Int) - 1).toNat ∧ gat encI (p.Args.xs ++ [0]) (((p.Args.xs ++ [0]).length : Int) - 1).toNat ≤ 9999 := by (have hnil : p.Args.xs = [] := List.eq_nil_of_length_eq_zero (by omega); rw [hnil]; decide)
   refine WC.region (WL.r 2 hs7 [2] rfl (WL.buildSlice hs7 Tryz.runUnderlying26 Tryz.sizeOf3 Tryz.zeroValue3 rfl rfl rfl rfl rfl rfl rfl rfl rfl rfl (fun b27 whs28 hs28 => ?_)))
   obtain ⟨L29, L30, hs33, ho31, ho32⟩ := ownVpR.op hs28 o_p
   have hs34 := ((((hs33.fb b2).fb b4).fb b6).fb b27)
   refine WL.appendG (hs34.fr L29) ho31 (srcI1 Tryz.underlying26 (hs34.own _ (nthL_mem (i := 0) rfl)).1) Tryz.underlying26 inf3 rfl rfl rfl rfl rfl rfl rfl rfl rfl rfl ?_ (fun A38 c39 L35 whs36 hs36 ho37 => ?_)
   · first | omega | (simp; done) | (simp; omega) | omega
   replace hs36 := St.back [_, _, _, _] hs36
   refine WL.r 1 hs36 [] rfl (WL.st tbk hs36 3 rfl rfl (fun _ hs40 => WL.nil (hK25 _ _ (WC.sr ?_))))
   refine WL.run tbk 6 hs40 [3, 3] rfl ⟨by first | omega | (simp; done) | (simp; omega) | omega, rfl, rfl, trivial⟩ (WL.val rfl rfl rfl (Run.idx Tryz.runUnderlying26 Tryz.sizeOf3 rfl rfl rfl ?_ ?_ ?_) ?_)
   · exact SlF.some_ (SlF.ofOwn ho37 (hs40.ow L35))
   · first | omega | (simp; done) | (simp; omega) | omega
   · first | omega | (simp; done) | (simp; omega) | omega
   refine WL.val rfl rfl rfl (Run.load Tryz.isAgg3 rfl rfl (SlF.one1 (SlF.ofOwn ho37 (hs40.ow L35)) ?_ rfl)) ?_
   · first | omega | (simp; done) | (simp; omega) | omega
   refine WL.run tbk 5 hs40 [] rfl ⟨by first | omega | (simp; done) | (simp; omega) | omega, by first | omega | (simp; done) | (simp; omega) | omega, by first | omega | (simp; done) | (simp; omega) | omega, trivial⟩ (WL.nil (WC.seq (fun K41 hK41 => WC.r1 hs40 [] rfl ?_)))
   refine WC.cD rfl (fun qh42 => ?_) (fun qh42 => ?_)
   ·refine WC.region (WL.r 1 hs40 [] rfl (WL.nil (hK41 _ _ (WC.region ?_))))
    refine WL.run tbk 7 hs40 [3, 3] rfl ⟨by first | omega | (simp; done) | (simp; omega) | omega, rfl, rfl, trivial⟩ (WL.val rfl rfl rfl (Run.idx Tryz.runUnderlying26 Tryz.sizeOf3 rfl rfl rfl ?_ ?_ ?_) ?_)
    · exact SlF.some_ (SlF.ofOwn ho37 (hs40.ow L35))
    · first | omega | (simp; done) | (simp; omega) | omega
    · first | omega | (simp; done) | (simp; omega) | omega
    refine WL.storeF1 (x' := _) (hs40.fr L35) ho37 Tryz.sizeOf3 rfl rfl rfl rfl rfl rfl rfl rfl rfl ?_ rfl (fun L43 whs44 hs44 ho45 _ => ?_)
    · first | omega | (simp; done) | (simp; omega) | omega
    replace hs44 := St.back [_, _, _, _] hs44
    refine WL.nil (hK8 _ _ (WC.sr (WL.r 1 hs44 [3] rfl ?_)))
    refine WL.val rfl rfl rfl (Run.build rfl rfl rfl rfl (built_58)) (WL.st tbk hs44 2 rfl rfl (fun _ hs46 => WL.st tbk hs46 1 rfl rfl (fun _ hs47 => WL.nil (WC.ret (retV2 rfl (resV.cellA tbk hs47 2 rfl rfl rfl rfl) (resV.cellA tbk hs47 1 rfl rfl rfl rfl) ?_)))))
    have hv : vpCsi p.dat b = (vpDigit p.dat (b - 48), act0) := by unfold vpCsi; rw [if_neg hc1, if_pos hc2]
    have hnil : p.Args.xs = [] := List.eq_nil_of_length_eq_zero (by omega)
    obtain ⟨L49, hs48, ho50⟩ := ownVpR.fl hs47 ho45 ho32
    have hs51 := ((((hs48.fb b2).fb b4).fb b6).fb b27)
    refine ⟨⟨p.State, p.Mark, SlD.of ho45, SlD.of ho32⟩, _, ⟨0, 0, false, ⟨none, 0, 0, []⟩⟩, _, rfl, (St.drop ((hs51.fr ([] : Hp)).fr L49) (List.Sublist.append_left (List.sublist_append_left ([] : Hp) _) L49)), ?_, ?_, ?_, ?_⟩
    · exact (by exact ho50)
    · exact (OwnF.nil _ _)
    · rw [hv, vpDigit_A (show p.dat.Args.length = 0 from (by omega : p.Args.xs.length = 0))]; exact VpD.ext' rfl rfl (by show ((p.Args.xs ++ [0]).set _ _ : List Int) = _; simp only [hnil, List.nil_append] at *; have ez : gat encI [0] ((([0] : List Int).length : Int) - 1).toNat = 0 := rfl; have ez0 : gat encI [0] 0 = 0 := rfl; show [_] = [_]; congr 1; omega) rfl
    · rw [hv]; first | done | rfl
   refine WC.skip (hK41 _ _ (WC.region ?_))
   refine WL.run tbk 7 hs40 [3, 3] rfl ⟨by first | omega | (simp; done) | (simp; omega) | omega, rfl, rfl, trivial⟩ (WL.val rfl rfl rfl (Run.idx Tryz.runUnderlying26 Tryz.sizeOf3 rfl rfl rfl ?_ ?_ ?_) ?_)
   · exact SlF.some_ (SlF.ofOwn ho37 (hs40.ow L35))
   · first | omega | (simp; done) | (simp; omega) | omega
   · first | omega | (simp; done) | (simp; omega) | omega
   refine WL.storeF1 (x' := _) (hs40.fr L35) ho37 Tryz.sizeOf3 rfl rfl rfl rfl rfl rfl rfl rfl rfl ?_ rfl (fun L53 whs54 hs54 ho55 _ => ?_)
   · first | omega | (simp; done) | (simp; omega) | omega
   replace hs54 := St.back [_, _, _, _] hs54
   refine WL.nil (hK8 _ _ (WC.sr (WL.r 1 hs54 [3] rfl ?_)))
   refine WL.val rfl rfl rfl (Run.build rfl rfl rfl rfl (built_58)) (WL.st tbk hs54 2 rfl rfl (fun _ hs56 => WL.st tbk hs56 1 rfl rfl (fun _ hs57 => WL.nil (WC.ret (retV2 rfl (resV.cellA tbk hs57 2 rfl rfl rfl rfl) (resV.cellA tbk hs57 1 rfl rfl rfl rfl) ?_)))))
   have hv : vpCsi p.dat b = (vpDigit p.dat (b - 48), act0) := by unfold vpCsi; rw [if_neg hc1, if_pos hc2]
   have hnil : p.Args.xs = [] := List.eq_nil_of_length_eq_zero (by omega)
   obtain ⟨L59, hs58, ho60⟩ := ownVpR.fl hs57 ho55 ho32
   have hs61 := ((((hs58.fb b2).fb b4).fb b6).fb b27)
   refine ⟨⟨p.State, p.Mark, SlD.of ho55, SlD.of ho32⟩, _, ⟨0, 0, false, ⟨none, 0, 0, []⟩⟩, _, rfl, (St.drop ((hs61.fr ([] : Hp)).fr L59) (List.Sublist.append_left (List.sublist_append_left ([] : Hp) _) L59)), ?_, ?_, ?_, ?_⟩
   · exact (by exact ho60)
   · exact (OwnF.nil _ _)
   · rw [hv, vpDigit_A (show p.dat.Args.length = 0 from (by omega : p.Args.xs.length = 0))]; exact VpD.ext' rfl rfl (by show ((p.Args.xs ++ [0]).set _ _ : List Int) = _; simp only [hnil, List.nil_append] at *; have ez : gat encI [0] ((([0] : List Int).length : Int) - 1).toNat = 0 := rfl; have ez0 : gat encI [0] 0 = 0 := rfl; show [_] = [_]; congr 1; omega) rfl
   · rw [hv]; first | done | rfl
  have gb := areArgs_gat (k := ((p.Args.n : Int) - 1).toNat) hok (by show _ < p.Args.xs.length; omega)
  have e0 : p.dat.Args = p.Args.xs := rfl
  rw [e0] at gb
  refine WC.skip (hK25 _ _ (WC.sr ?_))
  refine WL.run tbk 6 hs7 [2, 2] rfl ⟨by first | omega | (simp; done) | (simp; omega) | omega, rfl, rfl, trivial⟩ (WL.val rfl rfl rfl (Run.idx Tryz.runUnderlying26 Tryz.sizeOf3 rfl rfl rfl ?_ ?_ ?_) ?_)
  · exact SlF.some_ (ownVpR.ok (B := 549755813888) o_p (hs7.ow L_p) (by assumption)).Args
  · first | omega | (simp; done) | (simp; omega) | omega
  · first | omega | (simp; done) | (simp; omega) | omega
  refine WL.val rfl rfl rfl (Run.load Tryz.isAgg3 rfl rfl (SlF.one1 (ownVpR.ok (B := 549755813888) o_p (hs7.ow L_p) (by assumption)).Args ?_ rfl)) ?_
  · first | omega | (simp; done) | (simp; omega) | omega
  refine WL.run tbk 5 hs7 [] rfl ⟨by first | omega | (simp; done) | (simp; omega) | omega, by first | omega | (simp; done) | (simp; omega) | omega, by first | omega | (simp; done) | (simp; omega) | omega, trivial⟩ (WL.nil (WC.seq (fun K63 hK63 => WC.r1 hs7 [] rfl ?_)))
  refine WC.cD rfl (fun qh64 => ?_) (fun qh64 => ?_)
  ·refine WC.region (WL.r 1 hs7 [] rfl (WL.nil (hK63 _ _ (WC.region ?_))))
   refine WL.run tbk 7 hs7 [2, 2] rfl ⟨by first | omega | (simp; done) | (simp; omega) | omega, rfl, rfl, trivial⟩ (WL.val rfl rfl rfl (Run.idx Tryz.runUnderlying26 Tryz.sizeOf3 rfl rfl rfl ?_ ?_ ?_) ?_)
   · exact SlF.some_ (ownVpR.ok (B := 549755813888) o_p (hs7.ow L_p) (by assumption)).Args
   · first | omega | (simp; done) | (simp; omega) | omega
   · first | omega | (simp; done) | (simp; omega) | omega
   obtain ⟨L65, L66, hs69, ho67, ho68⟩ := ownVpR.op hs7 o_p
   have hs70 := (((hs69.fb b2).fb b4).fb b6)
   refine WL.storeF1 (x' := _) (hs70.fr L65) ho67 Tryz.sizeOf3 rfl rfl rfl rfl rfl rfl rfl rfl rfl ?_ rfl (fun L71 whs72 hs72 ho73 _ => ?_)
   · first | omega | (simp; done) | (simp; omega) | omega
   replace hs72 := St.back [_, _, _] hs72
   refine WL.nil (hK8 _ _ (WC.sr (WL.r 1 hs72 [2] rfl ?_)))
   refine WL.val rfl rfl rfl (Run.build rfl rfl rfl rfl (built_58)) (WL.st tbk hs72 1 rfl rfl (fun _ hs74 => WL.st tbk hs74 0 rfl rfl (fun _ hs75 => WL.nil (WC.ret (retV2 rfl (resV.cellA tbk hs75 1 rfl rfl rfl rfl) (resV.cellA tbk hs75 0 rfl rfl rfl rfl) ?_)))))
   have hv : vpCsi p.dat b = (vpDigit p.dat (b - 48), act0) := by unfold vpCsi; rw [if_neg hc1, if_pos hc2]
   obtain ⟨L77, hs76, ho78⟩ := ownVpR.fl hs75 ho73 ho68
   have hs79 := (((hs76.fb b2).fb b4).fb b6)
   refine ⟨⟨p.State, p.Mark, SlD.of ho73, SlD.of ho68⟩, _, ⟨0, 0, false, ⟨none, 0, 0, []⟩⟩, _, rfl, (St.drop ((hs79.fr ([] : Hp)).fr L77) (List.Sublist.append_left (List.sublist_append_left ([] : Hp) _) L77)), ?_, ?_, ?_, ?_⟩
   · exact (by exact ho78)
   · exact (OwnF.nil _ _)
   · rw [hv, vpDigit_B (show ¬ p.dat.Args.length = 0 from (by omega : ¬ p.Args.xs.length = 0))]; exact VpD.ext' rfl rfl (by have e9 : ((p.Args.n : Int) - 1).toNat = p.Args.xs.length - 1 := (by omega); show (p.Args.xs.set _ _ : List Int) = _; show _ = p.Args.xs.set (p.Args.xs.length - 1) (min 9999 (10 * gat encI p.Args.xs (p.Args.xs.length - 1) + (b - 48))); have e10 : gat encI p.Args.xs ((p.Args.n : Int) - 1).toNat = gat encI p.Args.xs (p.Args.xs.length - 1) := (by rw [e9]); rw [e9]; congr 1; omega) rfl
   · rw [hv]; first | done | rfl
  refine WC.skip (hK63 _ _ (WC.region ?_))
  refine WL.run tbk 7 hs7 [2, 2] rfl ⟨by first | omega | (simp; done) | (simp; omega) | omega, rfl, rfl, trivial⟩ (WL.val rfl rfl rfl (Run.idx Tryz.runUnderlying26 Tryz.sizeOf3 rfl rfl rfl ?_ ?_ ?_) ?_)
  · exact SlF.some_ (ownVpR.ok (B := 549755813888) o_p (hs7.ow L_p) (by assumption)).Args
  · first | omega | (simp; done) | (simp; omega) | omega
  · first | omega | (simp; done) | (simp; omega) | omega
  obtain ⟨L81, L82, hs85, ho83, ho84⟩ := ownVpR.op hs7 o_p
  have hs86 := (((hs85.fb b2).fb b4).fb b6)
  refine WL.storeF1 (x' := _) (hs86.fr L81) ho83 Tryz.sizeOf3 rfl rfl rfl rfl rfl rfl rfl rfl rfl ?_ rfl (fun L87 whs88 hs88 ho89 _ => ?_)
  · first | omega | (simp; done) | (simp; omega) | omega
  replace hs88 := St.back [_, _, _] hs88
  refine WL.nil (hK8 _ _ (WC.sr (WL.r 1 hs88 [2] rfl ?_)))
  refine WL.val rfl rfl rfl (Run.build rfl rfl rfl rfl (built_58)) (WL.st tbk hs88 1 rfl rfl (fun _ hs90 => WL.st tbk hs90 0 rfl rfl (fun _ hs91 => WL.nil (WC.ret (retV2 rfl (resV.cellA tbk hs91 1 rfl rfl rfl rfl) (resV.cellA tbk hs91 0 rfl rfl rfl rfl) ?_)))))
  have hv : vpCsi p.dat b = (vpDigit p.dat (b - 48), act0) := by unfold vpCsi; rw [if_neg hc1, if_pos hc2]
  obtain ⟨L93, hs92, ho94⟩ := ownVpR.fl hs91 ho89 ho84
  have hs95 := (((hs92.fb b2).fb b4).fb b6)
  refine ⟨⟨p.State, p.Mark, SlD.of ho89, SlD.of ho84⟩, _, ⟨0, 0, false, ⟨none, 0, 0, []⟩⟩, _, rfl, (St.drop ((hs95.fr ([] : Hp)).fr L93) (List.Sublist.append_left (List.sublist_append_left ([] : Hp) _) L93)), ?_, ?_, ?_, ?_⟩
  · exact (by exact ho94)
  · exact (OwnF.nil _ _)
  · rw [hv, vpDigit_B (show ¬ p.dat.Args.length = 0 from (by omega : ¬ p.Args.xs.length = 0))]; exact VpD.ext' rfl rfl (by have e9 : ((p.Args.n : Int) - 1).toNat = p.Args.xs.length - 1 := (by omega); show (p.Args.xs.set _ _ : List Int) = _; show _ = p.Args.xs.set (p.Args.xs.length - 1) (min 9999 (10 * gat encI p.Args.xs (p.Args.xs.length - 1) + (b - 48))); have e10 : gat encI p.Args.xs ((p.Args.n : Int) - 1).toNat = gat encI p.Args.xs (p.Args.xs.length - 1) := (by rw [e9]); rw [e9]; congr 1; omega) rfl
  · rw [hv]; first | done | rfl
 have hc2 : ¬ (48 ≤ b ∧ b ≤ 57) := by first | omega | (simp at qh24; omega)
 refine WC.r1 hs7 [] rfl (WC.cD rfl (fun qh97 => ?_) (fun qh97 => ?_))
 ·have hc3 : b = 59 := by first | omega | (simp at qh97; omega)
  refine WC.seq (fun K98 hK98 => WC.r1 hs7 [2] rfl ?_)
  refine WC.cD rfl (fun qh99 => ?_) (fun qh99 => ?_)
  ·refine WC.region (WL.r 2 hs7 [2] rfl (WL.buildSlice hs7 Tryz.runUnderlying26 Tryz.sizeOf3 Tryz.zeroValue3 rfl rfl rfl rfl rfl rfl rfl rfl rfl rfl (fun b100 whs101 hs101 => ?_)))
   obtain ⟨L102, L103, hs106, ho104, ho105⟩ := ownVpR.op hs101 o_p
   have hs107 := ((((hs106.fb b2).fb b4).fb b6).fb b100)
   refine WL.appendG (hs107.fr L102) ho104 (srcI1 Tryz.underlying26 (hs107.own _ (nthL_mem (i := 0) rfl)).1) Tryz.underlying26 inf3 rfl rfl rfl rfl rfl rfl rfl rfl rfl rfl ?_ (fun A111 c112 L108 whs109 hs109 ho110 => ?_)
   · first | omega | (simp; done) | (simp; omega) | omega
   replace hs109 := St.back [_, _, _, _] hs109
   refine WL.r 1 hs109 [] rfl (WL.st tbk hs109 3 rfl rfl (fun _ hs113 => WL.nil (hK98 _ _ (WC.r1 hs113 [3] rfl ?_))))
   refine WC.cD rfl (fun qh114 => ?_) (fun qh114 => ?_)
   ·refine WC.region (WL.r 1 hs113 [] rfl (WL.st tbk hs113 3 rfl rfl (fun _ hs115 => WL.nil (hK8 _ _ (WC.sr (WL.r 1 hs115 [3] rfl ?_))))))
    refine WL.val rfl rfl rfl (Run.build rfl rfl rfl rfl (built_58)) (WL.st tbk hs115 2 rfl rfl (fun _ hs116 => WL.st tbk hs116 1 rfl rfl (fun _ hs117 => WL.nil (WC.ret (retV2 rfl (resV.cellA tbk hs117 2 rfl rfl rfl rfl) (resV.cellA tbk hs117 1 rfl rfl rfl rfl) ?_)))))
    exfalso
    simp at qh114 <;> omega
   refine WC.region (WL.r 2 hs113 [3] rfl (WL.buildSlice hs113 Tryz.runUnderlying26 Tryz.sizeOf3 Tryz.zeroValue3 rfl rfl rfl rfl rfl rfl rfl rfl rfl rfl (fun b118 whs119 hs119 => ?_)))
   refine WL.appendG (hs119.fr L108) ho110 (srcI1 Tryz.underlying26 (hs119.own _ (nthL_mem (i := 0) rfl)).1) Tryz.underlying26 inf3 rfl rfl rfl rfl rfl rfl rfl rfl rfl rfl ?_ (fun A123 c124 L120 whs121 hs121 ho122 => ?_)
   · first | omega | (simp; done) | (simp; omega) | omega
   replace hs121 := St.back [_, _, _, _, _] hs121
   refine WL.r 1 hs121 [] rfl (WL.st tbk hs121 4 rfl rfl (fun _ hs125 => WL.nil (hK8 _ _ (WC.sr (WL.r 1 hs125 [4] rfl ?_)))))
   refine WL.val rfl rfl rfl (Run.build rfl rfl rfl rfl (built_58)) (WL.st tbk hs125 3 rfl rfl (fun _ hs126 => WL.st tbk hs126 2 rfl rfl (fun _ hs127 => WL.nil (WC.ret (retV2 rfl (resV.cellA tbk hs127 3 rfl rfl rfl rfl) (resV.cellA tbk hs127 2 rfl rfl rfl rfl) ?_)))))
   have hv : vpCsi p.dat b = (vpNext p.dat, act0) := by unfold vpCsi; rw [if_neg hc1, if_neg hc2, if_pos hc3]
   have hnil : p.Args.xs = [] := List.eq_nil_of_length_eq_zero (by omega)
   obtain ⟨L129, hs128, ho130⟩ := ownVpR.fl hs127 ho122 ho105
   have hs131 := (((((hs128.fb b2).fb b4).fb b6).fb b100).fb b118)
   refine ⟨⟨p.State, p.Mark, SlD.of ho122, SlD.of ho105⟩, _, ⟨0, 0, false, ⟨none, 0, 0, []⟩⟩, _, rfl, (St.drop ((hs131.fr ([] : Hp)).fr L129) (List.Sublist.append_left (List.sublist_append_left ([] : Hp) _) L129)), ?_, ?_, ?_, ?_⟩
   · exact (by exact ho130)
   · exact (OwnF.nil _ _)
   · rw [hv, vpNext_A (show p.dat.Args.length = 0 from (by omega : p.Args.xs.length = 0))]; exact VpD.ext' rfl rfl (by show (p.Args.xs ++ [0]) ++ [0] = _; rw [hnil]; rfl) rfl
   · rw [hv]; first | done | rfl
  refine WC.skip (hK98 _ _ (WC.r1 hs7 [2] rfl ?_))
  refine WC.cD rfl (fun qh133 => ?_) (fun qh133 => ?_)
  ·refine WC.region (WL.r 1 hs7 [] rfl (WL.st tbk hs7 2 rfl rfl (fun _ hs134 => WL.nil (hK8 _ _ (WC.sr (WL.r 1 hs134 [2] rfl ?_))))))
   refine WL.val rfl rfl rfl (Run.build rfl rfl rfl rfl (built_58)) (WL.st tbk hs134 1 rfl rfl (fun _ hs135 => WL.st tbk hs135 0 rfl rfl (fun _ hs136 => WL.nil (WC.ret (retV2 rfl (resV.cellA tbk hs136 1 rfl rfl rfl rfl) (resV.cellA tbk hs136 0 rfl rfl rfl rfl) ?_)))))
   have hv : vpCsi p.dat b = (vpNext p.dat, act0) := by unfold vpCsi; rw [if_neg hc1, if_neg hc2, if_pos hc3]
   obtain ⟨L137, L138, hs141, ho139, ho140⟩ := ownVpR.op hs136 o_p
   have hs142 := (((hs141.fb b2).fb b4).fb b6)
   obtain ⟨L144, hs143, ho145⟩ := ownVpR.fl hs142 ho139 ho140
   have hs146 := (((hs143.fb b2).fb b4).fb b6)
   refine ⟨⟨(3), p.Mark, SlD.of ho139, SlD.of ho140⟩, _, ⟨0, 0, false, ⟨none, 0, 0, []⟩⟩, _, rfl, (St.drop ((hs146.fr ([] : Hp)).fr L144) (List.Sublist.append_left (List.sublist_append_left ([] : Hp) _) L144)), ?_, ?_, ?_, ?_⟩
   · exact (by exact ho145)
   · exact (OwnF.nil _ _)
   · rw [hv, vpNext_D (show p.dat.Args.length = 8 from (by omega : p.Args.xs.length = 8))]; rfl
   · rw [hv]; first | done | rfl
  refine WC.region (WL.r 2 hs7 [2] rfl (WL.buildSlice hs7 Tryz.runUnderlying26 Tryz.sizeOf3 Tryz.zeroValue3 rfl rfl rfl rfl rfl rfl rfl rfl rfl rfl (fun b148 whs149 hs149 => ?_)))
  obtain ⟨L150, L151, hs154, ho152, ho153⟩ := ownVpR.op hs149 o_p
  have hs155 := ((((hs154.fb b2).fb b4).fb b6).fb b148)
  refine WL.appendG (hs155.fr L150) ho152 (srcI1 Tryz.underlying26 (hs155.own _ (nthL_mem (i := 0) rfl)).1) Tryz.underlying26 inf3 rfl rfl rfl rfl rfl rfl rfl rfl rfl rfl ?_ (fun A159 c160 L156 whs157 hs157 ho158 => ?_)
  · first | omega | (simp; done) | (simp; omega) | omega
  replace hs157 := St.back [_, _, _, _] hs157
  refine WL.r 1 hs157 [] rfl (WL.st tbk hs157 3 rfl rfl (fun _ hs161 => WL.nil (hK8 _ _ (WC.sr (WL.r 1 hs161 [3] rfl ?_)))))
  refine WL.val rfl rfl rfl (Run.build rfl rfl rfl rfl (built_58)) (WL.st tbk hs161 2 rfl rfl (fun _ hs162 => WL.st tbk hs162 1 rfl rfl (fun _ hs163 => WL.nil (WC.ret (retV2 rfl (resV.cellA tbk hs163 2 rfl rfl rfl rfl) (resV.cellA tbk hs163 1 rfl rfl rfl rfl) ?_)))))
  have hv : vpCsi p.dat b = (vpNext p.dat, act0) := by unfold vpCsi; rw [if_neg hc1, if_neg hc2, if_pos hc3]
  obtain ⟨L165, hs164, ho166⟩ := ownVpR.fl hs163 ho158 ho153
  have hs167 := ((((hs164.fb b2).fb b4).fb b6).fb b148)
  refine ⟨⟨p.State, p.Mark, SlD.of ho158, SlD.of ho153⟩, _, ⟨0, 0, false, ⟨none, 0, 0, []⟩⟩, _, rfl, (St.drop ((hs167.fr ([] : Hp)).fr L165) (List.Sublist.append_left (List.sublist_append_left ([] : Hp) _) L165)), ?_, ?_, ?_, ?_⟩
  · exact (by exact ho166)
  · exact (OwnF.nil _ _)
  · rw [hv, vpNext_B (show ¬ p.dat.Args.length = 0 from (by omega : ¬ p.Args.xs.length = 0)) (show p.dat.Args.length + 1 ≤ 8 from (by omega : p.Args.xs.length + 1 ≤ 8))]; rfl
  · rw [hv]; first | done | rfl
 have hc3 : ¬ (b = 59) := by first | omega | (simp at qh97; omega)
 refine WC.sr (WL.r 3 hs7 [] rfl (WL.pA tbk 2 Acts.nil hs7 [] rfl rfl rfl rfl (fun g_ => trivial) (WL.r 1 hs7 [] rfl (WL.nil (WC.cq rfl (fun h169 qh169 => ?_) (fun h169 qh169 => ?_))))))
 ·have hc4 : 64 ≤ b ∧ b ≤ 126 := by first | omega | (simp at qh169; omega)
  refine WC.seq (fun K170 hK170 => WC.rH hs7.d1.d1 hs7 (fun _ hs171 => ?_))
  refine WH.take 0 rfl (by kernel_rfl) rfl rfl rfl hs171.d1.d1 (fun w_ hs_ => (Run.build rfl rfl rfl rfl (built_28))) ?_
  refine WH.rn [1, 2, 3, 4, 5] hs171.d1.d1 [0, 0] rfl rfl ?_
  refine WH.take 6 rfl (by kernel_rfl) rfl rfl rfl hs171.d1.d1 (fun w_ hs_ => (Run.build rfl rfl rfl rfl (built_58_0_1_2_3 _ _ _ _ _ _))) ?_
  refine WH.o1 7 rfl (WL.st tbk hs171 1 rfl rfl (fun _ hs172 => WL.nil ⟨hs172.d1.d1, WH.o1 8 rfl (WL.st tbk hs172 0 rfl rfl (fun _ hs173 => WL.nil ⟨hs173.d1.d1, WH.dn (hK170 _ _ ?_)⟩))⟩))
  refine WC.ret (ibR (tkR ?_))
  clear hK8
  refine retV2 rfl (resV.cellA tbk hs173 1 rfl rfl rfl rfl) (resV.cellA tbk hs173 0 rfl rfl rfl rfl) ?_
  have hv : vpCsi p.dat b = (vp0, ⟨4, b, p.dat.Mark, p.dat.Args⟩) := by unfold vpCsi; rw [if_neg hc1, if_neg hc2, if_neg hc3, if_pos hc4]
  obtain ⟨L177, hs176, ho178⟩ := ownVpR.fl hs173 (OwnF.nil _ _) (OwnF.nil _ _)
  have hs179 := (((hs176.fb b2).fb b4).fb b6)
  obtain ⟨L180, L181, hs184, ho182, ho183⟩ := ownVpR.op hs179 o_p
  have hs185 := (((hs184.fb b2).fb b4).fb b6)
  refine ⟨⟨0, false, ⟨none, 0, 0, []⟩, ⟨none, 0, 0, []⟩⟩, _, ⟨(4), b, p.Mark, SlD.of ho182⟩, _, rfl, (St.drop ((hs185.fr L180).fr L177) (List.Sublist.append_left (List.sublist_append_left L180 _) L177)), ?_, ?_, ?_, ?_⟩
  · exact (by exact ho178)
  · exact ho182
  · rw [hv]; rfl
  · rw [hv]; rfl
 have hc4 : ¬ (64 ≤ b ∧ b ≤ 126) := by first | omega | (simp at qh169; omega)
 refine WC.sr (WL.r 3 hs7 [] rfl (WL.pO tbk 2 Acts.nil hs7 [] rfl rfl rfl rfl (fun g_ => trivial) (WL.r 1 hs7 [] rfl (WL.nil (WC.cq rfl (fun h186 qh186 => ?_) (fun h186 qh186 => ?_))))))
 ·have hc5 : b < 32 ∨ b = 127 := by first | omega | (simp at qh186; omega)
  refine WC.sr (WL.r 2 hs7 [2] rfl ?_)
  refine WL.val rfl rfl rfl (Run.build rfl rfl rfl rfl (built_58_0_1 _ _)) (WL.st tbk hs7 1 rfl rfl (fun _ hs187 => WL.st tbk hs187 0 rfl rfl (fun _ hs188 => WL.nil (WC.ret (ibR (tkR ?_))))))
  clear hK8
  refine retV2 rfl (resV.cellA tbk hs188 1 rfl rfl rfl rfl) (resV.cellA tbk hs188 0 rfl rfl rfl rfl) ?_
  have hv : vpCsi p.dat b = (p.dat, ⟨2, b, false, []⟩) := by unfold vpCsi; rw [if_neg hc1, if_neg hc2, if_neg hc3, if_neg hc4, if_pos hc5]
  refine ⟨p, _, ⟨(2), b, false, ⟨none, 0, 0, []⟩⟩, _, rfl, (St.drop ((hs188.fr ([] : Hp)).fr L_p) (List.Sublist.append_left (List.sublist_append_left ([] : Hp) _) L_p)), ?_, ?_, ?_, ?_⟩
  · exact o_p
  · exact (OwnF.nil _ _)
  · rw [hv]; first | done | rfl
  · rw [hv]; first | done | rfl
 have hc5 : ¬ (b < 32 ∨ b = 127) := by first | omega | (simp at qh186; omega)
 refine WC.region (WL.r 1 hs7 [] rfl (WL.st tbk hs7 2 rfl rfl (fun _ hs190 => WL.nil (hK8 _ _ (WC.sr (WL.r 1 hs190 [2] rfl ?_))))))
 refine WL.val rfl rfl rfl (Run.build rfl rfl rfl rfl (built_58)) (WL.st tbk hs190 1 rfl rfl (fun _ hs191 => WL.st tbk hs191 0 rfl rfl (fun _ hs192 => WL.nil (WC.ret (retV2 rfl (resV.cellA tbk hs192 1 rfl rfl rfl rfl) (resV.cellA tbk hs192 0 rfl rfl rfl rfl) ?_)))))
 have hv : vpCsi p.dat b = ({ p.dat with State := 3 }, act0) := by unfold vpCsi; rw [if_neg hc1, if_neg hc2, if_neg hc3, if_neg hc4, if_neg hc5]
 obtain ⟨L193, L194, hs197, ho195, ho196⟩ := ownVpR.op hs192 o_p
 have hs198 := (((hs197.fb b2).fb b4).fb b6)
 obtain ⟨L200, hs199, ho201⟩ := ownVpR.fl hs198 ho195 ho196
 have hs202 := (((hs199.fb b2).fb b4).fb b6)
 refine ⟨⟨(3), p.Mark, SlD.of ho195, SlD.of ho196⟩, _, ⟨0, 0, false, ⟨none, 0, 0, []⟩⟩, _, rfl, (St.drop ((hs202.fr ([] : Hp)).fr L200) (List.Sublist.append_left (List.sublist_append_left ([] : Hp) _) L200)), ?_, ?_, ?_, ?_⟩
 · exact (by exact ho201)
 · exact (OwnF.nil _ _)
 · rw [hv]; rfl
 · rw [hv]; first | done | rfl
theorem k123_ (p : VpR) (b : Int) (w : World) (f_p : okVpR 549755813888 w p) (hsm : smVp 1048576 p.dat) :
    Calls Tryz.prog 95 #[.agg #[i64 p.State, .bool p.Mark, .slice p.Args.A p.Args.n p.Args.c, .slice p.Part.A p.Part.n p.Part.c], i64 b] w fun e w' => ∃ r0 L0 r1 L1, e = .returned (.tuple #[.agg #[i64 r0.State, .bool r0.Mark, .slice r0.Args.A r0.Args.n r0.Args.c, .slice r0.Part.A r0.Part.n r0.Part.c], .agg #[i64 r1.Kind, i64 r1.R, .bool r1.Mark, .slice r1.Args.A r1.Args.n r1.Args.c]]) ∧ St w [] (L0 ++ L1) w' ∧ ownVpR r0 L0 ∧ ownActR r1 L1 ∧ r0.dat = (vpByte p.dat b).1 ∧ r1.dat = (vpByte p.dat b).2 := by
 have nb_p_Args := f_p.Args_n
 have nl_p_Args := f_p.Args.len
 have nb_p_Part := f_p.Part_n
 have nl_p_Part := f_p.Part.len
 have hsB : smVp 549755813888 p.dat := ⟨Nat.le_trans hsm.1 (by decide), Nat.le_trans hsm.2 (by decide)⟩
 have hsa : p.Args.xs.length ≤ 1048576 := hsm.1
 have hsp : p.Part.xs.length ≤ 1048576 := hsm.2
 refine enter 78 Tryz.func95 rfl Tryz.ntmps95 rfl rfl ?_
 have hs1 := St.init w
 refine WC.sr (WL.bx hs1 rfl (fun b2 _ hs3 => WL.al hs3 Tryz.zeroValue28 rfl rfl (fun b4 _ hs5 => WL.al hs5 Tryz.zeroValue58 rfl rfl (fun b6 _ hs7 => WL.nil (WC.seq (fun K8 hK8 => WC.sr (WL.r 1 hs7 [2] rfl ?_)))))))
 refine WL.cl Tryz.call29 rfl (k95_ p _ (okVpR.st0 f_p hs7)) ?_
 rintro _ whs9 ⟨rfl, hs9⟩
 replace hs9 := hs7.call0 hs9
 refine ⟨_, rfl, WL.r 2 hs9 [] rfl (WL.pO tbk 2 Acts.nil hs9 [] rfl rfl rfl rfl (fun g_ => trivial) (WL.r 1 hs9 [] rfl (WL.pO tbk 2 Acts.nil hs9 [] rfl rfl rfl rfl (fun g_ => trivial) (WL.nil (WC.cq rfl (fun h10 qh10 => ?_) (fun h10 qh10 => ?_))))))⟩
 ·have k0 : ¬ (vpOk p.dat = true ∧ 0 ≤ b ∧ b ≤ 255) := by rintro ⟨h1, h2⟩; rw [h1] at qh10; simp at qh10; omega
  refine WC.sr ?_
  refine WL.val rfl rfl rfl (Run.build rfl rfl rfl rfl (built_28)) ?_
  refine WL.val rfl rfl rfl (Run.build rfl rfl rfl rfl (built_58)) (WL.st tbk hs9 1 rfl rfl (fun _ hs11 => WL.st tbk hs11 0 rfl rfl (fun _ hs12 => WL.nil (WC.ret (tkR ?_)))))
  clear hK8
  refine retV2 rfl (resV.cellA tbk hs12 1 rfl rfl rfl rfl) (resV.cellA tbk hs12 0 rfl rfl rfl rfl) ?_
  have hv : vpByte p.dat b = (vp0, act0) := by unfold vpByte; rw [if_neg k0]
  obtain ⟨L16, hs15, ho17⟩ := ownVpR.fl hs12 (OwnF.nil _ _) (OwnF.nil _ _)
  have hs18 := (((hs15.fb b2).fb b4).fb b6)
  refine ⟨⟨0, false, ⟨none, 0, 0, []⟩, ⟨none, 0, 0, []⟩⟩, _, ⟨0, 0, false, ⟨none, 0, 0, []⟩⟩, _, rfl, (St.drop ((hs18.fr ([] : Hp)).fr L16) (List.Sublist.append_left (List.sublist_append_left ([] : Hp) _) L16)), ?_, ?_, ?_, ?_⟩
  · exact (by exact ho17)
  · exact (OwnF.nil _ _)
  · rw [hv]; first | done | rfl
  · rw [hv]; first | done | rfl
 have k0 : vpOk p.dat = true ∧ 0 ≤ b ∧ b ≤ 255 := by first | exact qh10 | (simp at qh10; exact ⟨qh10.1.1, by omega⟩)
 have hok := k0.1
 have hb := k0.2
 have hb1 : vpByte p.dat b = vpStep p.dat b := by unfold vpByte; rw [if_pos k0]
 refine WC.skip (hK8 _ _ (WC.seq (fun K20 hK20 => WC.r1 hs9 [] rfl ?_)))
 refine WC.cD rfl (fun qh21 => ?_) (fun qh21 => ?_)
 ·have k1 : b = 27 := by first | exact qh21 | omega | (simp at qh21; omega)
  refine WC.sr ?_
  refine WL.val rfl rfl rfl (Run.build rfl rfl rfl rfl (built_28_0 _)) ?_
  refine WL.val rfl rfl rfl (Run.build rfl rfl rfl rfl (built_58)) (WL.st tbk hs9 1 rfl rfl (fun _ hs22 => WL.st tbk hs22 0 rfl rfl (fun _ hs23 => WL.nil (WC.ret (tkR ?_)))))
  clear hK20
  refine retV2 rfl (resV.cellA tbk hs23 1 rfl rfl rfl rfl) (resV.cellA tbk hs23 0 rfl rfl rfl rfl) ?_
  have hv : vpStep p.dat b = (⟨1, false, [], []⟩, act0) := by unfold vpStep; rw [if_pos k1]
  obtain ⟨L27, hs26, ho28⟩ := ownVpR.fl hs23 (OwnF.nil _ _) (OwnF.nil _ _)
  have hs29 := (((hs26.fb b2).fb b4).fb b6)
  refine ⟨⟨(1), false, ⟨none, 0, 0, []⟩, ⟨none, 0, 0, []⟩⟩, _, ⟨0, 0, false, ⟨none, 0, 0, []⟩⟩, _, rfl, (St.drop ((hs29.fr ([] : Hp)).fr L27) (List.Sublist.append_left (List.sublist_append_left ([] : Hp) _) L27)), ?_, ?_, ?_, ?_⟩
  · exact (by exact ho28)
  · exact (OwnF.nil _ _)
  · rw [hb1, hv]; first | exact rfl | rfl
  · rw [hb1, hv]; first | exact rfl | rfl
 have k1 : ¬ (b = 27) := by first | exact qh21 | omega | (simp at qh21; omega)
 refine WC.skip (hK20 _ _ (WC.seq (fun K31 hK31 => WC.sr (WL.r 3 hs9 [] rfl (WL.pO tbk 2 Acts.nil hs9 [] rfl rfl rfl rfl (fun g_ => trivial) (WL.nil ?_))))))
 refine WC.cq rfl (fun h32 qh32 => ?_) (fun h32 qh32 => ?_)
 ·have k2 : b = 24 ∨ b = 26 := by first | exact qh32 | omega | (simp at qh32; omega)
  refine WC.sr ?_
  refine WL.val rfl rfl rfl (Run.build rfl rfl rfl rfl (built_28)) ?_
  refine WL.val rfl rfl rfl (Run.build rfl rfl rfl rfl (built_58)) (WL.st tbk hs9 1 rfl rfl (fun _ hs33 => WL.st tbk hs33 0 rfl rfl (fun _ hs34 => WL.nil (WC.ret (tkR ?_)))))
  clear hK31
  refine retV2 rfl (resV.cellA tbk hs34 1 rfl rfl rfl rfl) (resV.cellA tbk hs34 0 rfl rfl rfl rfl) ?_
  have hv : vpStep p.dat b = (vp0, act0) := by unfold vpStep; rw [if_neg k1, if_pos k2]
  obtain ⟨L38, hs37, ho39⟩ := ownVpR.fl hs34 (OwnF.nil _ _) (OwnF.nil _ _)
  have hs40 := (((hs37.fb b2).fb b4).fb b6)
  refine ⟨⟨0, false, ⟨none, 0, 0, []⟩, ⟨none, 0, 0, []⟩⟩, _, ⟨0, 0, false, ⟨none, 0, 0, []⟩⟩, _, rfl, (St.drop ((hs40.fr ([] : Hp)).fr L38) (List.Sublist.append_left (List.sublist_append_left ([] : Hp) _) L38)), ?_, ?_, ?_, ?_⟩
  · exact (by exact ho39)
  · exact (OwnF.nil _ _)
  · rw [hb1, hv]; first | exact rfl | rfl
  · rw [hb1, hv]; first | exact rfl | rfl
 have k2 : ¬ (b = 24 ∨ b = 26) := by first | exact qh32 | omega | (simp at qh32; omega)
 refine WC.skip (hK31 _ _ (WC.sr (WL.r 1 hs9 [2] rfl ?_)))
 refine WL.cl Tryz.call94 rfl (k115_ p _ (okVpR.st0 f_p hs9) ?_) ?_
 · first | assumption | rfl | omega | (rw [rfl]; assumption) | (simp; omega)
 rintro _ whs42 ⟨r43, L1_44, rfl, hs42, ho45, hd46⟩
 replace hs42 := hs9.callF hs42
 refine ⟨_, rfl, ?_⟩
 replace hs42 := St.back [_, _, _] hs42
 skip
 refine WL.al hs42 Tryz.zeroValue28 rfl rfl (fun b47 _ hs48 => WL.st tbk hs48 0 rfl rfl (fun _ hs49 => WL.nil (WC.seq (fun K50 hK50 => WC.r1 hs49 [3] rfl (WC.block (WC.r1 hs49 [] rfl ?_))))))
 refine WC.cD rfl (fun qh51 => ?_) (fun qh51 => ?_)
 ·have k3 : p.dat.State = 0 := by show p.State = 0; first | exact qh51 | omega | (simp at qh51; omega)
  refine WC.sr (WL.r 3 hs49 [3] rfl (WL.cl Tryz.call130 rfl (k116_ _ _ _ _ _ _ (SlF.st0 f_p.Part hs49) ?_) ?_))
  · first | assumption | rfl | omega | (rw [hd46]; assumption) | (simp; omega)
  rintro _ whs52 ⟨r0_53, L0_54, r1_55, L1_56, rfl, hs52, ho57, ho58, hd0_59, hd1_60⟩
  replace hs52 := hs49.callF hs52
  refine ⟨_, rfl, ?_⟩
  replace hs52 := St.assoc hs52
  replace hs52 := St.back2 [_, _, _, _] hs52
  refine WL.r 2 hs52 [] rfl (WL.st tbk hs52 2 rfl rfl (fun _ hs61 => WL.st tbk hs61 1 rfl rfl (fun _ hs62 => WL.nil (WC.ret (ibR (tkR ?_))))))
  clear hK50
  refine retV2 rfl (resV.cellA tbk hs62 2 rfl rfl rfl rfl) (resV.cellA tbk hs62 1 rfl rfl rfl rfl) ?_
  have hv : vpStep p.dat b = vpPlain p.dat.Part b := by unfold vpStep; rw [if_neg k1, if_neg k2, if_pos k3]
  refine ⟨r0_53, _, r1_55, _, rfl, (St.drop ((hs62.fr L1_56).fr L0_54) (List.Sublist.append_left (List.sublist_append_left L1_56 _) L0_54)), ?_, ?_, ?_, ?_⟩
  · exact ho57
  · exact ho58
  · rw [hb1, hv]; first | exact hd0_59 | rfl
  · rw [hb1, hv]; first | exact hd1_60 | rfl
 have k3 : ¬ (p.dat.State = 0) := by show ¬ (p.State = 0); first | exact qh51 | omega | (simp at qh51; omega)
 refine WC.r1 hs49 [] rfl (WC.cD rfl (fun qh63 => ?_) (fun qh63 => ?_))
 ·have k4 : p.dat.State = 1 := by show p.State = 1; first | exact qh63 | omega | (simp at qh63; omega)
  refine WC.seq (fun K64 hK64 => WC.r1 hs49 [] rfl ?_)
  refine WC.cD rfl (fun qh65 => ?_) (fun qh65 => ?_)
  ·have k5 : b = 91 := by first | exact qh65 | omega | (simp at qh65; omega)
   refine WC.sr ?_
   refine WL.val rfl rfl rfl (Run.build rfl rfl rfl rfl (built_28_0 _)) ?_
   refine WL.val rfl rfl rfl (Run.build rfl rfl rfl rfl (built_58)) (WL.st tbk hs49 2 rfl rfl (fun _ hs66 => WL.st tbk hs66 1 rfl rfl (fun _ hs67 => WL.nil (WC.ret (tkR (ibR (tkR ?_)))))))
   clear hK64 hK50
   refine retV2 rfl (resV.cellA tbk hs67 2 rfl rfl rfl rfl) (resV.cellA tbk hs67 1 rfl rfl rfl rfl) ?_
   have hv : vpStep p.dat b = (⟨2, false, [], []⟩, act0) := by unfold vpStep; rw [if_neg k1, if_neg k2, if_neg k3, if_pos k4, if_pos k5]
   obtain ⟨L71, hs70, ho72⟩ := ownVpR.fl hs67 (OwnF.nil _ _) (OwnF.nil _ _)
   have hs73 := ((((hs70.fb b2).fb b4).fb b6).fb b47)
   refine ⟨⟨(2), false, ⟨none, 0, 0, []⟩, ⟨none, 0, 0, []⟩⟩, _, ⟨0, 0, false, ⟨none, 0, 0, []⟩⟩, _, rfl, (St.drop ((hs73.fr ([] : Hp)).fr L71) (List.Sublist.append_left (List.sublist_append_left ([] : Hp) _) L71)), ?_, ?_, ?_, ?_⟩
   · exact (by exact ho72)
   · exact (OwnF.nil _ _)
   · rw [hb1, hv]; first | exact rfl | rfl
   · rw [hb1, hv]; first | exact rfl | rfl
  have k5 : ¬ (b = 91) := by first | exact qh65 | omega | (simp at qh65; omega)
  refine WC.skip (hK64 _ _ (WC.seq (fun K75 hK75 => WC.sr (WL.r 3 hs49 [] rfl (WL.pA tbk 2 Acts.nil hs49 [] rfl rfl rfl rfl (fun g_ => trivial) (WL.nil ?_))))))
  refine WC.cq rfl (fun h76 qh76 => ?_) (fun h76 qh76 => ?_)
  ·have k6 : 48 ≤ b ∧ b ≤ 126 := by first | exact qh76 | omega | (simp at qh76; omega)
   refine WC.sr ?_
   refine WL.val rfl rfl rfl (Run.build rfl rfl rfl rfl (built_28)) (WL.r 1 hs49 [] rfl ?_)
   refine WL.val rfl rfl rfl (Run.build rfl rfl rfl rfl (built_58_0_1 _ _)) (WL.st tbk hs49 2 rfl rfl (fun _ hs77 => WL.st tbk hs77 1 rfl rfl (fun _ hs78 => WL.nil (WC.ret (tkR (ibR (tkR ?_)))))))
   clear hK75 hK50
   refine retV2 rfl (resV.cellA tbk hs78 2 rfl rfl rfl rfl) (resV.cellA tbk hs78 1 rfl rfl rfl rfl) ?_
   have hv : vpStep p.dat b = (vp0, ⟨3, b, false, []⟩) := by unfold vpStep; rw [if_neg k1, if_neg k2, if_neg k3, if_pos k4, if_neg k5, if_pos k6]
   obtain ⟨L82, hs81, ho83⟩ := ownVpR.fl hs78 (OwnF.nil _ _) (OwnF.nil _ _)
   have hs84 := ((((hs81.fb b2).fb b4).fb b6).fb b47)
   refine ⟨⟨0, false, ⟨none, 0, 0, []⟩, ⟨none, 0, 0, []⟩⟩, _, ⟨(3), b, false, ⟨none, 0, 0, []⟩⟩, _, rfl, (St.drop ((hs84.fr ([] : Hp)).fr L82) (List.Sublist.append_left (List.sublist_append_left ([] : Hp) _) L82)), ?_, ?_, ?_, ?_⟩
   · exact (by exact ho83)
   · exact (OwnF.nil _ _)
   · rw [hb1, hv]; first | exact rfl | rfl
   · rw [hb1, hv]; first | exact rfl | rfl
  have k6 : ¬ (48 ≤ b ∧ b ≤ 126) := by first | exact qh76 | omega | (simp at qh76; omega)
  refine WC.skip (hK75 _ _ (WC.sr ?_))
  refine WL.val rfl rfl rfl (Run.build rfl rfl rfl rfl (built_28)) ?_
  refine WL.val rfl rfl rfl (Run.build rfl rfl rfl rfl (built_58)) (WL.st tbk hs49 2 rfl rfl (fun _ hs86 => WL.st tbk hs86 1 rfl rfl (fun _ hs87 => WL.nil (WC.ret (ibR (tkR ?_))))))
  clear hK50
  refine retV2 rfl (resV.cellA tbk hs87 2 rfl rfl rfl rfl) (resV.cellA tbk hs87 1 rfl rfl rfl rfl) ?_
  have hv : vpStep p.dat b = (vp0, act0) := by unfold vpStep; rw [if_neg k1, if_neg k2, if_neg k3, if_pos k4, if_neg k5, if_neg k6]
  obtain ⟨L91, hs90, ho92⟩ := ownVpR.fl hs87 (OwnF.nil _ _) (OwnF.nil _ _)
  have hs93 := ((((hs90.fb b2).fb b4).fb b6).fb b47)
  refine ⟨⟨0, false, ⟨none, 0, 0, []⟩, ⟨none, 0, 0, []⟩⟩, _, ⟨0, 0, false, ⟨none, 0, 0, []⟩⟩, _, rfl, (St.drop ((hs93.fr ([] : Hp)).fr L91) (List.Sublist.append_left (List.sublist_append_left ([] : Hp) _) L91)), ?_, ?_, ?_, ?_⟩
  · exact (by exact ho92)
  · exact (OwnF.nil _ _)
  · rw [hb1, hv]; first | exact rfl | rfl
  · rw [hb1, hv]; first | exact rfl | rfl
 have k4 : ¬ (p.dat.State = 1) := by show ¬ (p.State = 1); first | exact qh63 | omega | (simp at qh63; omega)
 refine WC.r1 hs49 [] rfl (WC.cD rfl (fun qh95 => ?_) (fun qh95 => ?_))
 ·have k7 : p.dat.State = 2 := by show p.State = 2; first | exact qh95 | omega | (simp at qh95; omega)
  have hoa : areArgs p.dat.Args = true := by have h_ := hok; rw [vpOk_csi (.inl k7), Bool.and_eq_true] at h_; exact h_.1
  refine WC.sr (WL.r 2 hs49 [0] rfl (WL.cl Tryz.call131 rfl (k122_ r43 _ _ _ ho45 (hs49.ow L1_44) (St.nodupL (hs49.fr L1_44)) ?_ ?_ ?_) ?_))
  iterate 3 first | assumption | rfl | omega | (rw [hd46]; assumption) | (simp; omega)
  rintro _ whs96 ⟨r0_97, L0_98, r1_99, L1_100, rfl, hs96, ho101, ho102, hd0_103, hd1_104⟩
  replace hs96 := St.lend (hs49.fr L1_44) hs96
  refine ⟨_, rfl, ?_⟩
  replace hs96 := St.assoc hs96
  replace hs96 := St.back2 [_, _, _, _] hs96
  refine WL.r 2 hs96 [] rfl (WL.st tbk hs96 2 rfl rfl (fun _ hs105 => WL.st tbk hs105 1 rfl rfl (fun _ hs106 => WL.nil (WC.ret (ibR (tkR ?_))))))
  clear hK50
  refine retV2 rfl (resV.cellA tbk hs106 2 rfl rfl rfl rfl) (resV.cellA tbk hs106 1 rfl rfl rfl rfl) ?_
  have hv : vpStep p.dat b = vpCsi p.dat b := by unfold vpStep; rw [if_neg k1, if_neg k2, if_neg k3, if_neg k4, if_pos k7]
  refine ⟨r0_97, _, r1_99, _, rfl, (St.drop ((hs106.fr L1_100).fr L0_98) (List.Sublist.append_left (List.sublist_append_left L1_100 _) L0_98)), ?_, ?_, ?_, ?_⟩
  · exact ho101
  · exact ho102
  · rw [hb1, hv]; rw [hd46] at hd0_103; exact hd0_103
  · rw [hb1, hv]; rw [hd46] at hd1_104; exact hd1_104
 have k7 : ¬ (p.dat.State = 2) := by show ¬ (p.State = 2); first | exact qh95 | omega | (simp at qh95; omega)
 refine WC.skip (hK50 _ _ (WC.seq (fun K107 hK107 => WC.sr (WL.r 3 hs49 [] rfl (WL.pA tbk 2 Acts.nil hs49 [] rfl rfl rfl rfl (fun g_ => trivial) (WL.nil ?_))))))
 refine WC.cq rfl (fun h108 qh108 => ?_) (fun h108 qh108 => ?_)
 ·have k8 : 64 ≤ b ∧ b ≤ 126 := by first | exact qh108 | omega | (simp at qh108; omega)
  refine WC.sr ?_
  refine WL.val rfl rfl rfl (Run.build rfl rfl rfl rfl (built_28)) ?_
  refine WL.val rfl rfl rfl (Run.build rfl rfl rfl rfl (built_58)) (WL.st tbk hs49 2 rfl rfl (fun _ hs109 => WL.st tbk hs109 1 rfl rfl (fun _ hs110 => WL.nil (WC.ret (tkR ?_)))))
  clear hK107
  refine retV2 rfl (resV.cellA tbk hs110 2 rfl rfl rfl rfl) (resV.cellA tbk hs110 1 rfl rfl rfl rfl) ?_
  have hv : vpStep p.dat b = (vp0, act0) := by unfold vpStep; rw [if_neg k1, if_neg k2, if_neg k3, if_neg k4, if_neg k7, if_pos k8]
  obtain ⟨L114, hs113, ho115⟩ := ownVpR.fl hs110 (OwnF.nil _ _) (OwnF.nil _ _)
  have hs116 := ((((hs113.fb b2).fb b4).fb b6).fb b47)
  refine ⟨⟨0, false, ⟨none, 0, 0, []⟩, ⟨none, 0, 0, []⟩⟩, _, ⟨0, 0, false, ⟨none, 0, 0, []⟩⟩, _, rfl, (St.drop ((hs116.fr ([] : Hp)).fr L114) (List.Sublist.append_left (List.sublist_append_left ([] : Hp) _) L114)), ?_, ?_, ?_, ?_⟩
  · exact (by exact ho115)
  · exact (OwnF.nil _ _)
  · rw [hb1, hv]; first | exact rfl | rfl
  · rw [hb1, hv]; first | exact rfl | rfl
 have k8 : ¬ (64 ≤ b ∧ b ≤ 126) := by first | exact qh108 | omega | (simp at qh108; omega)
 refine WC.skip (hK107 _ _ (WC.sr (WL.r 1 hs49 [0] rfl ?_)))
 refine WL.val rfl rfl rfl (Run.build rfl rfl rfl rfl (built_58)) (WL.st tbk hs49 2 rfl rfl (fun _ hs118 => WL.st tbk hs118 1 rfl rfl (fun _ hs119 => WL.nil (WC.ret (retV2 rfl (resV.cellA tbk hs119 2 rfl rfl rfl rfl) (resV.cellA tbk hs119 1 rfl rfl rfl rfl) ?_)))))
 have hv : vpStep p.dat b = (p.dat, act0) := by unfold vpStep; rw [if_neg k1, if_neg k2, if_neg k3, if_neg k4, if_neg k7, if_neg k8]
 refine ⟨r43, _, ⟨0, 0, false, ⟨none, 0, 0, []⟩⟩, _, rfl, (St.drop ((hs119.fr ([] : Hp)).fr L1_44) (List.Sublist.append_left (List.sublist_append_left ([] : Hp) _) L1_44)), ?_, ?_, ?_, ?_⟩
 · exact ho45
 · exact (OwnF.nil _ _)
 · rw [hb1, hv]; exact hd46
 · rw [hb1, hv]; first | done | rfl
theorem inf58 : Tryz.prog.info? 58 = some Tryz.t58 := by kernel_rfl
theorem k124_ (p : VpR) (A_b : Option Addr) (n_b c_b : Nat) (b : List UInt8) (w : World) (f_p : okVpR 549755813888 w p) (f_b : SlF encB w A_b n_b b) (hsm : smVp 1048576 p.dat) (hok : vpOk p.dat = true) (hn : n_b ≤ 1048576) :
    Calls Tryz.prog 20 #[.agg #[i64 p.State, .bool p.Mark, .slice p.Args.A p.Args.n p.Args.c, .slice p.Part.A p.Part.n p.Part.c], .slice A_b n_b c_b] w fun e w' => ∃ r0 L0 A1 c1 x1 L1, e = .returned (.tuple #[.agg #[i64 r0.State, .bool r0.Mark, .slice r0.Args.A r0.Args.n r0.Args.c, .slice r0.Part.A r0.Part.n r0.Part.c], .slice A1 x1.length c1]) ∧ St w [] (L0 ++ L1) w' ∧ ownVpR r0 L0 ∧ OwnN encActR ownActR 58 (.slice A1 x1.length c1) x1 L1 ∧ r0.dat = (vpParse p.dat b).1 ∧ x1.map ActR.dat = (vpParse p.dat b).2 := by
 have nb_p_Args := f_p.Args_n
 have nl_p_Args := f_p.Args.len
 have nb_p_Part := f_p.Part_n
 have nl_p_Part := f_p.Part.len
 have hsB : smVp 549755813888 p.dat := ⟨Nat.le_trans hsm.1 (by decide), Nat.le_trans hsm.2 (by decide)⟩
 have hsa : p.Args.xs.length ≤ 1048576 := hsm.1
 have hsp : p.Part.xs.length ≤ 1048576 := hsm.2
 have hbl := f_b.len
 refine enter 39 Tryz.func20 rfl Tryz.ntmps20 rfl rfl ?_
 have hs1 := St.init w
 refine WC.sr (WL.bx hs1 rfl (fun b2 _ hs3 => WL.al hs3 Tryz.zeroValue28 rfl rfl (fun b4 _ hs5 => WL.r 1 hs5 [] rfl (WL.nil (WC.sr (WL.r 1 hs5 [1] rfl ?_))))))
 refine WL.cl Tryz.call34 rfl (k114_ p _ (okVpR.st0 f_p hs5) ?_) ?_
 · first | assumption | rfl | omega | exact ⟨by omega, by omega⟩ | (simp; omega)
 rintro _ whs6 ⟨r7, L1_8, rfl, hs6, ho9, hd10⟩
 replace hs6 := hs5.callF hs6
 refine ⟨_, rfl, ?_⟩
 replace hs6 := St.back [_, _] hs6
 skip
 refine WL.buildF (F := encActR) hs6 ([]) Tryz.runUnderlying54 Tryz.sizeOf58 Tryz.zeroValue58 rfl rfl rfl rfl rfl rfl rfl rfl rfl rfl rfl rfl (fun A14 c15 L11 whs12 hs12 ho13 => ?_)
 replace hs12 := St.back [_, _] hs12
 obtain ⟨L16, hs17, ho18⟩ := OwnN.fresh (own := ownActR) (hs12.fr L11) ho13 Bag.nil
 have hs19 := ((hs17.fb b2).fb b4)
 refine WL.al hs19 Tryz.zeroValue28 rfl rfl (fun b20 _ hs21 => WL.st tbk hs21 0 rfl rfl (fun _ hs22 => WL.r 1 hs22 [] rfl (WL.nil (WC.seq (fun K23 hK23 => WC.r1 hs22 [] rfl (WC.block ?_))))))
 have hM32 := (St.grp2 (L1 := L1_8) (L2 := L16) [_] (((((hs22.fb b2).fb b4).fr L16).fr L1_8).fb b20))
 refine WC.lV [4, 5, 6, 15, 16] rfl hM32 (fun k_ (a_ : Hp) f => ∃ (i : Nat) (acts : List ActR) (r : VpR) (L26 : Hp) (A28 : Option Addr) (c29 : Nat) (L30 : Hp), k_ = n_b - i ∧ a_ = [(b20, .cells (List.toArray [i64 r.State, .bool r.Mark, .slice r.Args.A r.Args.n r.Args.c, .slice r.Part.A r.Part.n r.Part.c]) 28 (0, 0))] ++ (L26 ++ L30) ∧ (i ≤ n_b) ∧ (r.dat = (vpParse p.dat (b.take i)).1) ∧ (acts.map ActR.dat = (vpParse p.dat (b.take i)).2) ∧ (acts.length ≤ i) ∧ ownVpR r L26 ∧ OwnN encActR ownActR 58 (.slice A28 (acts).length c29) (acts) L30 ∧ Sub [(7, .slice A28 (acts).length c29), (17, .int .i64 i)] f) (((fun (i : Nat) (acts : List ActR) => n_b - i) (0) ([]))) ?_ ?_
 ·refine ⟨0, [], r7, L1_8, A14, c15, L16, rfl, rfl, ?_, ?_, ?_, ?_, ho9, ho18, ⟨rfl, rfl, trivial⟩⟩
  · exact Nat.zero_le _
  · exact hd10
  · rfl
  · exact Nat.le_refl _
 rintro _ _ f w ⟨i, acts, r, L26, A28, c29, L30, rfl, rfl, p0, p1, p2, p3, ho27, ho31, hG⟩ hF hs33
 refine WC.sub _ (hG.app hF) ?_
 clear hG hF
 replace hs33 := St.ungrp2 [_] hs33
 have hs34 := (((hs33.fb b2).fb b4).fb b20)
 have hvr : vpOk r.dat = true := by rw [p1]; exact vpParse_ok hok
 have hlr := vpOk_len hvr
 have hsmr : smVp 1048576 r.dat := ⟨by omega, by omega⟩
 have hsmB : smVp 549755813888 r.dat := ⟨by omega, by omega⟩
 have hxb := (gat encB b i).toNat_lt
 refine WC.r1 hs34 [] rfl (WC.seq (fun K35 hK35 => ?_))
 refine WC.cD rfl (fun qh36 => ?_) (fun qh36 => ?_)
 ·refine WC.skip (hK35 _ _ (WC.seq (fun K37 hK37 => WC.block (WC.sr ?_))))
  refine WL.val rfl rfl rfl (Run.idxN Tryz.runUnderlying22 Tryz.sizeOf5 rfl rfl rfl ?_ ?_ ?_) ?_
  · exact SlF.some_ (SlF.st0 f_b hs34)
  · omega
  · omega
  refine WL.val rfl rfl rfl (Run.load Tryz.isAgg5 rfl rfl (SlF.one1 (SlF.st0 f_b hs34) ?_ rfl)) ?_
  · omega
  refine WL.r 1 hs34 [] rfl (WL.nil (WC.sr (WL.r 3 hs34 [0] rfl (WL.cl Tryz.call36 rfl (k121_ r _ _ (ownVpR.ok (B := 549755813888) ho27 (hs34.ow L26) (by assumption)) ?_ ?_ ?_) ?_))))
  iterate 3 first | assumption | rfl | omega | exact ⟨by omega, by omega⟩ | (simp; omega)
  rintro _ whs38 ⟨r0_39, L0_40, r1_41, L1_42, rfl, hs38, ho43, ho44, hd0_45, hd1_46⟩
  replace hs38 := hs34.callF hs38
  refine ⟨_, rfl, ?_⟩
  replace hs38 := St.assoc hs38
  replace hs38 := St.back2 [_, _, _] hs38
  refine WL.r 3 hs38 [] rfl (WL.al hs38 Tryz.zeroValue28 rfl rfl (fun b47 _ hs48 => WL.al hs48 Tryz.zeroValue58 rfl rfl (fun b49 _ hs50 => WL.st tbk hs50 1 rfl rfl (fun _ hs51 => WL.st tbk hs51 0 rfl rfl (fun _ hs52 => WL.nil (WC.sr (WL.r 1 hs52 [1] rfl ?_)))))))
  refine WL.st tbk hs52 2 rfl rfl (fun _ hs53 => WL.nil (WC.r1 hs53 [0] rfl ?_))
  refine WC.cN rfl (fun qh54 => ?_) (fun qh54 => ?_)
  ·have hk0 := hd0_45
   have hk1 := hd1_46
   have hkk : r1_41.Kind = (vpStep r.dat (gat encB b i).toNat).2.Kind := congrArg ActD.Kind hd1_46
   have hk : ¬ (vpStep r.dat (gat encB b i).toNat).2.Kind = 0 := by omega
   refine WC.region (WL.r 2 hs53 [0] rfl (WL.buildSlice hs53 Tryz.runUnderlying54 Tryz.sizeOf58 Tryz.zeroValue58 rfl rfl rfl rfl rfl rfl rfl rfl rfl rfl (fun b55 whs56 hs56 => ?_)))
   obtain ⟨L57, L58, hs61, ho59, ho60⟩ := OwnN.open_ (hs56.fr L30) ho31
   have hs62 := ((((((hs61.fb b2).fb b4).fb b20).fb b47).fb b49).fb b55)
   refine WL.appendG (hs62.fr L57) ho59 (srcF (F := encActR) (ys := [(r1_41 : ActR)]) Tryz.underlying54 rfl rfl (hs62.own _ (nthL_mem (i := 0) rfl)).1) Tryz.underlying54 inf58 rfl rfl rfl rfl rfl rfl rfl rfl rfl rfl ?_ (fun A66 c67 L63 whs64 hs64 ho65 => ?_)
   · (try simp only [List.length_append, List.length_singleton]); omega
   replace hs64 := St.back [_, _, _, _, _, _] hs64
   obtain ⟨L68, hs69, hb70⟩ := Bag.put (x := (r1_41 : ActR)) ((hs64.fr L1_42).fr L58) ho60 ho44
   have hs71 := ((((((hs69.fb b2).fb b4).fb b20).fb b47).fb b49).fb b55)
   obtain ⟨L73, hs72, ho74⟩ := OwnN.fold ((hs71.fr L68).fr L63) ho65 hb70
   have hs75 := ((((((hs72.fb b2).fb b4).fb b20).fb b47).fb b49).fb b55)
   refine WL.r 1 hs75 [] rfl (WL.nil (hK37 _ _ (WC.region (WL.r 2 hs75 [] rfl (WL.nil (tkN ?_))))))
   have hst := vpParse_take (v := p.dat) (l := b) (i := i) (by omega)
   replace hs75 := (hs75.d1.d1.d1.rm L26)
   have hF76 := (St.grp2 (L1 := L0_40) (L2 := L73) [_] (((((hs75.fb b2).fb b4).fr L73).fr L0_40).fb b20))
   refine ⟨sbF rfl, _, hF76, _, ?_, i + 1, ((acts) ++ [(r1_41 : ActR)]), r0_39, L0_40, A66, c67, L73, rfl, rfl, ?_, ?_, ?_, ?_, ho43, ho74, ⟨rfl, rfl, trivial⟩⟩
   · omega
   · omega
   · rw [hst, ← p1]; exact hk0
   · rw [hst, ← p2, ← p1, if_neg hk, List.map_append]; congr 1; show [_] = [_]; rw [← hk1]
   · (try simp only [List.length_append, List.length_singleton]); omega
  have hk0 := hd0_45
  have hk1 := hd1_46
  have hkk : r1_41.Kind = (vpStep r.dat (gat encB b i).toNat).2.Kind := congrArg ActD.Kind hd1_46
  have hk : (vpStep r.dat (gat encB b i).toNat).2.Kind = 0 := by omega
  refine WC.skip (hK37 _ _ (WC.region (WL.r 2 hs53 [] rfl (WL.nil (tkN ?_)))))
  have hst := vpParse_take (v := p.dat) (l := b) (i := i) (by omega)
  replace hs53 := ((hs53.d1.d1.rm L1_42).rm L26)
  have hF77 := (St.grp2 (L1 := L0_40) (L2 := L30) [_] (((((hs53.fb b2).fb b4).fr L30).fr L0_40).fb b20))
  refine ⟨sbF rfl, _, hF77, _, ?_, i + 1, acts, r0_39, L0_40, A28, c29, L30, rfl, rfl, ?_, ?_, ?_, ?_, ho43, ho31, ⟨rfl, rfl, trivial⟩⟩
  · omega
  · omega
  · rw [hst, ← p1]; exact hk0
  · rw [hst, ← p2, ← p1, if_pos hk, List.append_nil]
  · (try simp only [List.length_append, List.length_singleton]); omega
 refine WC.exit (hK23 _ _ (WC.sr (WL.r 2 hs34 [0] rfl (WL.st tbk hs34 1 rfl rfl (fun _ hs78 => WL.r 1 hs78 [] rfl (WL.nil (WC.ret ?_)))))))
 refine retV2 rfl (resV.cellA tbk hs78 1 rfl rfl rfl rfl) (resV.tmp rfl) ?_
 have hi_ : i = n_b := by omega
 have ht : b.take i = b := List.take_of_length_le (by omega)
 rw [ht] at p1 p2
 refine ⟨r, _, _, _, _, _, rfl, (St.drop ((hs78.fr L30).fr L26) (List.Sublist.append_left (List.sublist_append_left L30 _) L26)), ?_, ?_, ?_, ?_⟩
 · exact ho27
 · exact ho31
 · rw [p1]
 · rw [p2]
theorem k125_ (p : VpR) (A_b : Option Addr) (n_b c_b : Nat) (b : List UInt8) (w : World) (f_p : okVpR 549755813888 w p) (f_b : SlF encB w A_b n_b b) (hsm : smVp 1048576 p.dat) (hn : n_b ≤ 1048576) :
    Calls Tryz.prog 49 #[.agg #[i64 p.State, .bool p.Mark, .slice p.Args.A p.Args.n p.Args.c, .slice p.Part.A p.Part.n p.Part.c], .slice A_b n_b c_b] w fun e w' => ∃ r0 L0 A1 c1 x1 L1, e = .returned (.tuple #[.agg #[i64 r0.State, .bool r0.Mark, .slice r0.Args.A r0.Args.n r0.Args.c, .slice r0.Part.A r0.Part.n r0.Part.c], .slice A1 x1.length c1]) ∧ St w [] (L0 ++ L1) w' ∧ ownVpR r0 L0 ∧ OwnN encActR ownActR 58 (.slice A1 x1.length c1) x1 L1 ∧ r0.dat = (vpBytes p.dat b).1 ∧ x1.map ActR.dat = (vpBytes p.dat b).2 := by
 have nb_p_Args := f_p.Args_n
 have nl_p_Args := f_p.Args.len
 have nb_p_Part := f_p.Part_n
 have nl_p_Part := f_p.Part.len
 have hsB : smVp 549755813888 p.dat := ⟨Nat.le_trans hsm.1 (by decide), Nat.le_trans hsm.2 (by decide)⟩
 have hsa : p.Args.xs.length ≤ 1048576 := hsm.1
 have hsp : p.Part.xs.length ≤ 1048576 := hsm.2
 have hbl := f_b.len
 refine enter 43 Tryz.func49 rfl Tryz.ntmps49 rfl rfl ?_
 have hs1 := St.init w
 refine WC.sr (WL.bx hs1 rfl (fun b2 _ hs3 => WL.al hs3 Tryz.zeroValue28 rfl rfl (fun b4 _ hs5 => WL.r 1 hs5 [] rfl (WL.nil (WC.seq (fun K6 hK6 => WC.sr (WL.r 1 hs5 [1] rfl ?_)))))))
 refine WL.cl Tryz.call29 rfl (k95_ p _ (okVpR.st0 f_p hs5)) ?_
 rintro _ whs7 ⟨rfl, hs7⟩
 replace hs7 := hs5.call0 hs7
 refine ⟨_, rfl, WL.r 1 hs7 [] rfl (WL.nil (WC.cq rfl (fun h8 qh8 => ?_) (fun h8 qh8 => ?_)))⟩
 ·refine WC.sr ?_
  refine WL.val rfl rfl rfl (Run.build rfl rfl rfl rfl (built_28)) (WL.st tbk hs7 0 rfl rfl (fun _ hs9 => WL.r 1 hs9 [] rfl (WL.nil (WC.ret (tkR ?_)))))
  clear hK6
  refine retV2 rfl (resV.cellA tbk hs9 0 rfl rfl rfl rfl) (resV.tmp rfl) ?_
  have hvb : vpBytes p.dat b = (vp0, []) := by unfold vpBytes; rw [if_neg (by simpa using h8)]
  obtain ⟨L13, hs12, ho14⟩ := ownVpR.fl hs9 (OwnF.nil _ _) (OwnF.nil _ _)
  have hs15 := ((hs12.fb b2).fb b4)
  refine ⟨⟨0, false, ⟨none, 0, 0, []⟩, ⟨none, 0, 0, []⟩⟩, _, none, 0, [], _, rfl, (St.drop ((hs15.fr ([] : Hp)).fr L13) (List.Sublist.append_left (List.sublist_append_left ([] : Hp) _) L13)), ?_, ?_, ?_, ?_⟩
  · exact (by exact ho14)
  · exact (OwnN.nil _ _ _)
  · rw [hvb]; rfl
  · rw [hvb]; rfl
 have hok : vpOk p.dat = true := by simpa using h8
 have hvb : vpBytes p.dat b = vpParse p.dat b := by unfold vpBytes; rw [if_pos hok]
 refine WC.skip (hK6 _ _ (WC.sr (WL.r 1 hs7 [1] rfl ?_)))
 refine WL.cl Tryz.call94 rfl (k115_ p _ (okVpR.st0 f_p hs7) ?_) ?_
 · first | assumption | rfl | omega | exact ⟨by omega, by omega⟩ | (simp; omega)
 rintro _ whs17 ⟨r18, L1_19, rfl, hs17, ho20, hd21⟩
 replace hs17 := hs7.callF hs17
 refine ⟨_, rfl, ?_⟩
 replace hs17 := St.back [_, _] hs17
 skip
 refine WL.al hs17 Tryz.zeroValue28 rfl rfl (fun b22 _ hs23 => WL.st tbk hs23 0 rfl rfl (fun _ hs24 => WL.nil (WC.sr (WL.buildF (F := encActR) hs24 ([]) Tryz.runUnderlying54 Tryz.sizeOf58 Tryz.zeroValue58 rfl rfl rfl rfl rfl rfl rfl rfl rfl rfl rfl rfl (fun A28 c29 L25 whs26 hs26 ho27 => ?_)))))
 replace hs26 := St.back [_, _, _] hs26
 obtain ⟨L30, hs31, ho32⟩ := OwnN.fresh (own := ownActR) (hs26.fr L25) ho27 Bag.nil
 have hs33 := (((hs31.fb b2).fb b4).fb b22)
 refine WL.r 1 hs33 [] rfl (WL.nil (WC.seq (fun K34 hK34 => WC.r1 hs33 [] rfl (WC.block ?_))))
 have hM43 := (St.grp2 (L1 := L1_19) (L2 := L30) [_] (((((hs33.fb b2).fb b4).fr L30).fr L1_19).fb b22))
 refine WC.lV [4, 5, 6, 14, 19, 20] rfl hM43 (fun k_ (a_ : Hp) f => ∃ (i : Nat) (acts : List ActR) (r : VpR) (L37 : Hp) (A39 : Option Addr) (c40 : Nat) (L41 : Hp), k_ = n_b - i ∧ a_ = [(b22, .cells (List.toArray [i64 r.State, .bool r.Mark, .slice r.Args.A r.Args.n r.Args.c, .slice r.Part.A r.Part.n r.Part.c]) 28 (0, 0))] ++ (L37 ++ L41) ∧ (i ≤ n_b) ∧ (r.dat = (vpParse p.dat (b.take i)).1) ∧ (acts.map ActR.dat = (vpParse p.dat (b.take i)).2) ∧ (acts.length ≤ i) ∧ ownVpR r L37 ∧ OwnN encActR ownActR 58 (.slice A39 (acts).length c40) (acts) L41 ∧ Sub [(7, .slice A39 (acts).length c40), (21, .int .i64 i)] f) (((fun (i : Nat) (acts : List ActR) => n_b - i) (0) ([]))) ?_ ?_
 ·refine ⟨0, [], r18, L1_19, A28, c29, L30, rfl, rfl, ?_, ?_, ?_, ?_, ho20, ho32, ⟨rfl, rfl, trivial⟩⟩
  · exact Nat.zero_le _
  · exact hd21
  · rfl
  · exact Nat.le_refl _
 rintro _ _ f w ⟨i, acts, r, L37, A39, c40, L41, rfl, rfl, p0, p1, p2, p3, ho38, ho42, hG⟩ hF hs44
 refine WC.sub _ (hG.app hF) ?_
 clear hG hF
 replace hs44 := St.ungrp2 [_] hs44
 have hs45 := (((hs44.fb b2).fb b4).fb b22)
 have hvr : vpOk r.dat = true := by rw [p1]; exact vpParse_ok hok
 have hlr := vpOk_len hvr
 have hsmr : smVp 1048576 r.dat := ⟨by omega, by omega⟩
 have hsmB : smVp 549755813888 r.dat := ⟨by omega, by omega⟩
 have hxb := (gat encB b i).toNat_lt
 refine WC.r1 hs45 [] rfl (WC.seq (fun K46 hK46 => ?_))
 refine WC.cq rfl (fun h47 qh47 => ?_) (fun h47 qh47 => ?_)
 ·refine WC.skip (hK46 _ _ (WC.seq (fun K48 hK48 => WC.block (WC.sr ?_))))
  refine WL.val rfl rfl rfl (Run.idxN Tryz.runUnderlying22 Tryz.sizeOf5 rfl rfl rfl ?_ ?_ ?_) ?_
  · exact SlF.some_ (SlF.st0 f_b hs45)
  · omega
  · omega
  refine WL.val rfl rfl rfl (Run.load Tryz.isAgg5 rfl rfl (SlF.one1 (SlF.st0 f_b hs45) ?_ rfl)) ?_
  · omega
  refine WL.r 1 hs45 [] rfl (WL.nil (WC.sr (WL.r 3 hs45 [0] rfl (WL.cl Tryz.call95 rfl (k123_ r _ _ (ownVpR.ok (B := 549755813888) ho38 (hs45.ow L37) (by assumption)) ?_) ?_))))
  · first | assumption | rfl | omega | exact ⟨by omega, by omega⟩ | (simp; omega)
  rintro _ whs49 ⟨r0_50, L0_51, r1_52, L1_53, rfl, hs49, ho54, ho55, hd0_56, hd1_57⟩
  replace hs49 := hs45.callF hs49
  refine ⟨_, rfl, ?_⟩
  replace hs49 := St.assoc hs49
  replace hs49 := St.back2 [_, _, _] hs49
  refine WL.r 3 hs49 [] rfl (WL.al hs49 Tryz.zeroValue28 rfl rfl (fun b58 _ hs59 => WL.al hs59 Tryz.zeroValue58 rfl rfl (fun b60 _ hs61 => WL.st tbk hs61 1 rfl rfl (fun _ hs62 => WL.st tbk hs62 0 rfl rfl (fun _ hs63 => WL.nil (WC.sr (WL.r 1 hs63 [1] rfl ?_)))))))
  refine WL.st tbk hs63 2 rfl rfl (fun _ hs64 => WL.nil (WC.r1 hs64 [0] rfl ?_))
  refine WC.cq rfl (fun h65 qh65 => ?_) (fun h65 qh65 => ?_)
  ·have hb1 : vpByte r.dat (gat encB b i).toNat = vpStep r.dat (gat encB b i).toNat := by unfold vpByte; rw [if_pos ⟨hvr, by omega, by omega⟩]
   rw [hb1] at hd0_56 hd1_57
   have hk0 := hd0_56
   have hk1 := hd1_57
   have hkk : r1_52.Kind = (vpStep r.dat (gat encB b i).toNat).2.Kind := congrArg ActD.Kind hd1_57
   have hk : ¬ (vpStep r.dat (gat encB b i).toNat).2.Kind = 0 := by omega
   refine WC.region (WL.r 2 hs64 [0] rfl (WL.buildSlice hs64 Tryz.runUnderlying54 Tryz.sizeOf58 Tryz.zeroValue58 rfl rfl rfl rfl rfl rfl rfl rfl rfl rfl (fun b66 whs67 hs67 => ?_)))
   obtain ⟨L68, L69, hs72, ho70, ho71⟩ := OwnN.open_ (hs67.fr L41) ho42
   have hs73 := ((((((hs72.fb b2).fb b4).fb b22).fb b58).fb b60).fb b66)
   refine WL.appendG (hs73.fr L68) ho70 (srcF (F := encActR) (ys := [(r1_52 : ActR)]) Tryz.underlying54 rfl rfl (hs73.own _ (nthL_mem (i := 0) rfl)).1) Tryz.underlying54 inf58 rfl rfl rfl rfl rfl rfl rfl rfl rfl rfl ?_ (fun A77 c78 L74 whs75 hs75 ho76 => ?_)
   · (try simp only [List.length_append, List.length_singleton]); omega
   replace hs75 := St.back [_, _, _, _, _, _] hs75
   obtain ⟨L79, hs80, hb81⟩ := Bag.put (x := (r1_52 : ActR)) ((hs75.fr L1_53).fr L69) ho71 ho55
   have hs82 := ((((((hs80.fb b2).fb b4).fb b22).fb b58).fb b60).fb b66)
   obtain ⟨L84, hs83, ho85⟩ := OwnN.fold ((hs82.fr L79).fr L74) ho76 hb81
   have hs86 := ((((((hs83.fb b2).fb b4).fb b22).fb b58).fb b60).fb b66)
   refine WL.r 1 hs86 [] rfl (WL.nil (hK48 _ _ (WC.region (WL.r 2 hs86 [] rfl (WL.nil (tkN ?_))))))
   have hst := vpParse_take (v := p.dat) (l := b) (i := i) (by omega)
   replace hs86 := (hs86.d1.d1.d1.rm L37)
   have hF87 := (St.grp2 (L1 := L0_51) (L2 := L84) [_] (((((hs86.fb b2).fb b4).fr L84).fr L0_51).fb b22))
   refine ⟨sbF rfl, _, hF87, _, ?_, i + 1, ((acts) ++ [(r1_52 : ActR)]), r0_50, L0_51, A77, c78, L84, rfl, rfl, ?_, ?_, ?_, ?_, ho54, ho85, ⟨rfl, rfl, trivial⟩⟩
   · omega
   · omega
   · rw [hst, ← p1]; exact hk0
   · rw [hst, ← p2, ← p1, if_neg hk, List.map_append]; congr 1; show [_] = [_]; rw [← hk1]
   · (try simp only [List.length_append, List.length_singleton]); omega
  have hb1 : vpByte r.dat (gat encB b i).toNat = vpStep r.dat (gat encB b i).toNat := by unfold vpByte; rw [if_pos ⟨hvr, by omega, by omega⟩]
  rw [hb1] at hd0_56 hd1_57
  have hk0 := hd0_56
  have hk1 := hd1_57
  have hkk : r1_52.Kind = (vpStep r.dat (gat encB b i).toNat).2.Kind := congrArg ActD.Kind hd1_57
  have hk : (vpStep r.dat (gat encB b i).toNat).2.Kind = 0 := by omega
  refine WC.skip (hK48 _ _ (WC.region (WL.r 2 hs64 [] rfl (WL.nil (tkN ?_)))))
  have hst := vpParse_take (v := p.dat) (l := b) (i := i) (by omega)
  replace hs64 := ((hs64.d1.d1.rm L1_53).rm L37)
  have hF88 := (St.grp2 (L1 := L0_51) (L2 := L41) [_] (((((hs64.fb b2).fb b4).fr L41).fr L0_51).fb b22))
  refine ⟨sbF rfl, _, hF88, _, ?_, i + 1, acts, r0_50, L0_51, A39, c40, L41, rfl, rfl, ?_, ?_, ?_, ?_, ho54, ho42, ⟨rfl, rfl, trivial⟩⟩
  · omega
  · omega
  · rw [hst, ← p1]; exact hk0
  · rw [hst, ← p2, ← p1, if_pos hk, List.append_nil]
  · (try simp only [List.length_append, List.length_singleton]); omega
 refine WC.exit (hK34 _ _ (WC.sr (WL.r 2 hs45 [0] rfl (WL.st tbk hs45 1 rfl rfl (fun _ hs89 => WL.r 1 hs89 [] rfl (WL.nil (WC.ret ?_)))))))
 refine retV2 rfl (resV.cellA tbk hs89 1 rfl rfl rfl rfl) (resV.tmp rfl) ?_
 have hi_ : i = n_b := by omega
 have ht : b.take i = b := List.take_of_length_le (by omega)
 rw [ht] at p1 p2
 refine ⟨r, _, _, _, _, _, rfl, (St.drop ((hs89.fr L41).fr L37) (List.Sublist.append_left (List.sublist_append_left L41 _) L37)), ?_, ?_, ?_, ?_⟩
 · exact ho38
 · exact ho42
 · rw [hvb, p1]
 · rw [hvb, p2]
set_option maxHeartbeats 2000000 in
theorem k126_ (b_c : Nat) (A_s : Option Addr) (n_s c_s : Nat) (s : List UInt8) (i h : Int) (most : Int) (w : World) (hc : w.heap[b_c]? = some (Obj.cells (List.toArray [.slice A_s n_s c_s, i64 (i), i64 (h)]) 67 (0, 0))) (f_s : SlF encB w A_s n_s s) (s_s : 0 < n_s → (adr A_s).block ∉ [b_c]) (hn : n_s ≤ 1099511627776) (hi : 0 ≤ i ∧ i ≤ n_s) (hm : 0 ≤ most ∧ most ≤ 12) :
    Calls Tryz.prog 28 #[.pointer (some ⟨b_c, 0, none⟩), i64 most] w fun e w' => ∃ (A : Option Addr) (c : Nat) (zs : List UInt8) (L1 : Hp) (i' h' : Int), e = .returned (.slice A zs.length c) ∧ St w [b_c] ((b_c, Obj.cells (List.toArray [.slice A_s n_s c_s, i64 (i'), i64 (h')]) 67 (0, 0)) :: L1) w' ∧ OwnF encB 5 (.slice A zs.length c) zs L1 ∧ zs.length ≤ 260 ∧ (0 ≤ i' ∧ i' ≤ n_s) := by
 have hl := f_s.len
 refine enter 61 Tryz.func28 rfl Tryz.ntmps28 rfl rfl ?_
 have hs1 := St.take1 w b_c _ hc
 refine WC.r1 hs1 [] rfl (WC.sr (WL.buildF (F := encB) hs1 ([]) Tryz.runUnderlying22 Tryz.sizeOf5 Tryz.zeroValue5 rfl rfl rfl rfl rfl rfl rfl rfl rfl rfl rfl rfl (fun A5 c6 L2 whs3 hs3 ho4 => ?_)))
 replace hs3 := St.back [_] hs3
 refine WL.r 1 hs3 [] rfl (WL.nil (WC.seq (fun K7 hK7 => WC.sr (WL.r 3 hs3 [] rfl ?_))))
 have hF8 : St _ _ ([(b_c, _)] ++ _) _ := hs3
 refine WL.call rfl rfl rfl (Run.call Tryz.call14 rfl rfl rfl) (k104_ _ _ _ _ _ _ _ _ _ (hF8.own _ List.mem_cons_self).1 (SlF.st f_s hs3 s_s) (St.sepT hF8 f_s s_s) ?_ ?_) ?_
 · omega
 · omega
 rintro _ whs14 ⟨r9, i10, h11, rfl, hs14, hr12, hi13⟩
 replace hs14 := St.lend1 hF8 hs14
 try have hbhr12 := hr12.2 (by omega)
 refine ⟨_, rfl, WL.r 1 hs14 [] rfl (WL.nil (WC.block ?_))⟩
 have hM19 := (St.grp1 (L1 := L2) [_] ((hs14.fr L2).fb b_c))
 refine WC.lV [0, 4] rfl hM19 (fun k_ (a_ : Hp) f => ∃ (n i1 h1 : Int) (zs : List UInt8) (A15 : Option Addr) (c16 : Nat) (L17 : Hp), k_ = n.toNat ∧ a_ = [(b_c, .cells (List.toArray [.slice A_s n_s c_s, i64 i1, i64 h1]) 67 (0, 0))] ++ L17 ∧ (zs.length + 20 * n.toNat ≤ 240) ∧ (0 ≤ n ∧ n ≤ 12) ∧ (0 ≤ i1 ∧ i1 ≤ n_s) ∧ OwnF encB 5 (.slice A15 (zs).length c16) (zs) L17 ∧ Sub [(5, .slice A15 (zs).length c16), (6, .int .i64 n)] f) (((fun (n i1 h1 : Int) (zs : List UInt8) => n.toNat) (r9) (i10) (h11) ([]))) ?_ ?_
 ·refine ⟨r9, i10, h11, [], A5, c6, L2, rfl, rfl, ?_, ?_, ?_, ho4, ⟨rfl, rfl, trivial⟩⟩
  · show 0 + _ ≤ _; omega
  · omega
  · omega
 rintro _ _ f w ⟨n, i1, h1, zs, A15, c16, L17, rfl, rfl, p0, p1, p2, ho18, hG⟩ hF hs20
 refine WC.sub _ (hG.app hF) ?_
 clear hG hF
 replace hs20 := St.ungrp1 [_] hs20
 refine WC.seq (fun K21 hK21 => WC.r1 hs20 [] rfl ?_)
 refine WC.cD rfl (fun qh22 => ?_) (fun qh22 => ?_)
 ·refine WC.skip (hK21 _ _ (WC.seq (fun K23 hK23 => WC.block (WC.sr (WL.r 1 hs20 [] rfl ?_)))))
  have hF24 : St _ _ ([(b_c, _)] ++ _) _ := hs20
  refine WL.call rfl rfl rfl (Run.call Tryz.call14 rfl rfl rfl) (k104_ _ _ _ _ _ _ _ _ _ (hF24.own _ List.mem_cons_self).1 (SlF.st f_s hs20 s_s) (St.sepT hF24 f_s s_s) ?_ ?_) ?_
  · omega
  · omega
  rintro _ whs30 ⟨r25, i26, h27, rfl, hs30, hr28, hi29⟩
  replace hs30 := St.lend1 hF24 hs30
  try have hbhr28 := hr28.2 (by omega)
  refine ⟨_, rfl, WL.r 1 hs30 [] rfl (WL.nil (WC.r1 hs30 [] rfl (WC.cD rfl (fun qh31 => ?_) (fun qh31 => ?_))))⟩
  ·refine WC.region (WL.r 2 hs30 [] rfl ?_)
   have hF32 : St _ _ ([(b_c, _)] ++ _) _ := hs30
   refine WL.call rfl rfl rfl (Run.call Tryz.call45 rfl rfl rfl) (k111_ _ _ _ _ _ _ _ _ (hF32.own _ List.mem_cons_self).1 (SlF.st f_s hs30 s_s) (St.sepT hF32 f_s s_s) ?_ ?_) ?_
   · omega
   · omega
   rintro _ whs38 ⟨r33, i34, h35, rfl, hs38, hr36, hi37⟩
   replace hs38 := St.lend1 hF32 hs38
   refine ⟨_, rfl, WL.cl Tryz.call52 rfl (k15_ _ _) ?_⟩
   rintro _ whs39 ⟨A40, c41, L1_42, rfl, hs39, ho43⟩
   replace hs39 := hs38.callF hs39
   refine ⟨_, rfl, ?_⟩
   replace hs39 := St.back [_] hs39
   have hsl := runeB_len r33
   refine WL.appendG (hs39.fr L17) ho18 (SlF.src (SlF.ofOwn ho43 (hs39.ow L1_42)) Tryz.underlying22) Tryz.underlying22 inf5 rfl rfl rfl rfl rfl rfl rfl rfl rfl rfl ?_ (fun A47 c48 L44 whs45 hs45 ho46 => ?_)
   · (try simp only [List.length_append, List.length_singleton]); omega
   replace hs45 := St.back [_] hs45
   refine WL.r 1 hs45 [] rfl (WL.nil (hK23 _ _ (WC.region (WL.r 3 hs45 [] rfl (WL.nil (tkN ?_))))))
   replace hs45 := (hs45.rm L1_42)
   have hF49 := (St.grp1 (L1 := L44) [_] ((hs45.fr L44).fb b_c))
   refine ⟨sbF rfl, _, hF49, _, ?_, _, i34, h35, _, A47, c48, L44, rfl, rfl, ?_, ?_, ?_, ho46, ⟨rfl, rfl, trivial⟩⟩
   · omega
   · first | (simp only [List.length_append, List.length_singleton]; omega) | (simp only [List.length_append]; omega)
   · omega
   · omega
  refine WC.r1 hs30 [] rfl (WC.cD rfl (fun qh50 => ?_) (fun qh50 => ?_))
  ·refine WC.region (WL.r 1 hs30 [] rfl (WL.buildF (F := encB) hs30 ([7, 8, 9, 10, 13, 10, 0, 127, 24]) Tryz.runUnderlying22 Tryz.sizeOf5 Tryz.zeroValue5 rfl rfl rfl rfl rfl rfl rfl rfl rfl rfl rfl rfl (fun A54 c55 L51 whs52 hs52 ho53 => ?_)))
   replace hs52 := St.back [_] hs52
   refine WL.r 1 hs52 [] rfl ?_
   have hF56 : St _ _ ([(b_c, _)] ++ _) _ := hs52
   refine WL.call rfl rfl rfl (Run.call Tryz.call14 rfl rfl rfl) (k104_ _ _ _ _ _ _ _ _ _ (hF56.own _ List.mem_cons_self).1 (SlF.st f_s hs52 s_s) (St.sepT hF56 f_s s_s) ?_ ?_) ?_
   · omega
   · omega
   rintro _ whs62 ⟨r57, i58, h59, rfl, hs62, hr60, hi61⟩
   replace hs62 := St.lend1 hF56 hs62
   try have hbhr60 := hr60.2 (by omega)
   refine ⟨_, rfl, WL.val rfl rfl rfl (Run.idxK (r57.toNat) Tryz.runUnderlying22 Tryz.sizeOf5 rfl rfl rfl ?_ ?_ ?_) ?_⟩
   · exact SlF.some_ (SlF.ofOwn ho53 (hs62.ow L51))
   · first | omega | (show _ < 9; omega) | (show _ < 32; omega) | (show _ < 16; omega)
   · first | omega | (show _ < 9; omega) | (show _ < 32; omega) | (show _ < 16; omega)
   refine WL.val rfl rfl rfl (Run.load Tryz.isAgg5 rfl rfl (SlF.one1 (SlF.ofOwn ho53 (hs62.ow L51)) ?_ rfl)) ?_
   · first | omega | (show _ < 9; omega) | (show _ < 32; omega) | (show _ < 16; omega)
   refine WL.buildSlice hs62 Tryz.runUnderlying22 Tryz.sizeOf5 Tryz.zeroValue5 rfl rfl rfl rfl rfl rfl rfl rfl rfl rfl (fun b63 whs64 hs64 => ?_)
   refine WL.appendG (hs64.fr L17) ho18 (srcB1 Tryz.underlying22 (hs64.own _ (nthL_mem (i := 0) rfl)).1) Tryz.underlying22 inf5 rfl rfl rfl rfl rfl rfl rfl rfl rfl rfl ?_ (fun A68 c69 L65 whs66 hs66 ho67 => ?_)
   · (try simp only [List.length_append, List.length_singleton]); omega
   replace hs66 := St.back [_, _] hs66
   refine WL.r 1 hs66 [] rfl (WL.nil (hK23 _ _ (WC.region (WL.r 3 hs66 [] rfl (WL.nil (tkN ?_))))))
   replace hs66 := (hs66.d1.rm L51)
   have hF70 := (St.grp1 (L1 := L65) [_] ((hs66.fr L65).fb b_c))
   refine ⟨sbF rfl, _, hF70, _, ?_, _, i58, h59, _, A68, c69, L65, rfl, rfl, ?_, ?_, ?_, ho67, ⟨rfl, rfl, trivial⟩⟩
   · omega
   · first | (simp only [List.length_append, List.length_singleton]; omega) | (simp only [List.length_append]; omega)
   · omega
   · omega
  refine WC.r1 hs30 [] rfl (WC.cD rfl (fun qh71 => ?_) (fun qh71 => ?_))
  ·refine WC.region (WL.r 1 hs30 [] rfl (WL.buildF (F := encS) hs30 ([⟨#[27, 91, 65]⟩, ⟨#[27, 91, 50, 66]⟩, ⟨#[27, 91, 67]⟩, ⟨#[27, 91, 51, 68]⟩, ⟨#[27, 91, 72]⟩, ⟨#[27, 91, 50, 59, 51, 72]⟩, ⟨#[27, 91, 75]⟩, ⟨#[27, 91, 49, 75]⟩, ⟨#[27, 91, 50, 74]⟩, ⟨#[27, 91, 74]⟩, ⟨#[27, 91, 49, 74]⟩, ⟨#[27, 91, 50, 59, 51, 114]⟩, ⟨#[27, 91, 114]⟩, ⟨#[27, 91, 76]⟩, ⟨#[27, 91, 50, 77]⟩, ⟨#[27, 91, 64]⟩, ⟨#[27, 91, 50, 80]⟩, ⟨#[27, 91, 88]⟩, ⟨#[27, 91, 83]⟩, ⟨#[27, 91, 84]⟩, ⟨#[27, 91, 50, 71]⟩, ⟨#[27, 91, 51, 100]⟩, ⟨#[27, 91, 49, 59, 51, 49, 109]⟩, ⟨#[27, 91, 48, 109]⟩, ⟨#[27, 91, 55, 59, 52, 52, 109]⟩, ⟨#[27, 91, 63, 55, 108]⟩, ⟨#[27, 91, 63, 55, 104]⟩, ⟨#[27, 91, 63, 50, 53, 108]⟩, ⟨#[27, 91, 63, 49, 48, 52, 57, 104]⟩, ⟨#[27, 91, 63, 49, 48, 52, 57, 108]⟩, ⟨#[27, 91, 103]⟩, ⟨#[27, 91, 51, 103]⟩]) Tryz.runUnderlying90 Tryz.sizeOf9 Tryz.zeroValue9 rfl rfl rfl rfl rfl rfl rfl rfl rfl rfl rfl rfl (fun A75 c76 L72 whs73 hs73 ho74 => ?_)))
   replace hs73 := St.back [_] hs73
   refine WL.r 1 hs73 [] rfl ?_
   have hF77 : St _ _ ([(b_c, _)] ++ _) _ := hs73
   refine WL.call rfl rfl rfl (Run.call Tryz.call14 rfl rfl rfl) (k104_ _ _ _ _ _ _ _ _ _ (hF77.own _ List.mem_cons_self).1 (SlF.st f_s hs73 s_s) (St.sepT hF77 f_s s_s) ?_ ?_) ?_
   · omega
   · omega
   rintro _ whs83 ⟨r78, i79, h80, rfl, hs83, hr81, hi82⟩
   replace hs83 := St.lend1 hF77 hs83
   try have hbhr81 := hr81.2 (by omega)
   refine ⟨_, rfl, WL.val rfl rfl rfl (Run.idxK (r78.toNat) Tryz.runUnderlying90 Tryz.sizeOf9 rfl rfl rfl ?_ ?_ ?_) ?_⟩
   · exact SlF.some_ (SlF.ofOwn ho74 (hs83.ow L72))
   · first | omega | (show _ < 9; omega) | (show _ < 32; omega) | (show _ < 16; omega)
   · first | omega | (show _ < 9; omega) | (show _ < 32; omega) | (show _ < 16; omega)
   refine WL.val rfl rfl rfl (Run.load Tryz.isAgg9 rfl rfl (SlF.one1 (SlF.ofOwn ho74 (hs83.ow L72)) ?_ rfl)) ?_
   · first | omega | (show _ < 9; omega) | (show _ < 32; omega) | (show _ < 16; omega)
   have hsl : (gat encS [⟨#[27, 91, 65]⟩, ⟨#[27, 91, 50, 66]⟩, ⟨#[27, 91, 67]⟩, ⟨#[27, 91, 51, 68]⟩, ⟨#[27, 91, 72]⟩, ⟨#[27, 91, 50, 59, 51, 72]⟩, ⟨#[27, 91, 75]⟩, ⟨#[27, 91, 49, 75]⟩, ⟨#[27, 91, 50, 74]⟩, ⟨#[27, 91, 74]⟩, ⟨#[27, 91, 49, 74]⟩, ⟨#[27, 91, 50, 59, 51, 114]⟩, ⟨#[27, 91, 114]⟩, ⟨#[27, 91, 76]⟩, ⟨#[27, 91, 50, 77]⟩, ⟨#[27, 91, 64]⟩, ⟨#[27, 91, 50, 80]⟩, ⟨#[27, 91, 88]⟩, ⟨#[27, 91, 83]⟩, ⟨#[27, 91, 84]⟩, ⟨#[27, 91, 50, 71]⟩, ⟨#[27, 91, 51, 100]⟩, ⟨#[27, 91, 49, 59, 51, 49, 109]⟩, ⟨#[27, 91, 48, 109]⟩, ⟨#[27, 91, 55, 59, 52, 52, 109]⟩, ⟨#[27, 91, 63, 55, 108]⟩, ⟨#[27, 91, 63, 55, 104]⟩, ⟨#[27, 91, 63, 50, 53, 108]⟩, ⟨#[27, 91, 63, 49, 48, 52, 57, 104]⟩, ⟨#[27, 91, 63, 49, 48, 52, 57, 108]⟩, ⟨#[27, 91, 103]⟩, ⟨#[27, 91, 51, 103]⟩] r78.toNat).data.toList.length ≤ 20 := by
     have h9 : ∀ x, x ∈ ([⟨#[27, 91, 65]⟩, ⟨#[27, 91, 50, 66]⟩, ⟨#[27, 91, 67]⟩, ⟨#[27, 91, 51, 68]⟩, ⟨#[27, 91, 72]⟩, ⟨#[27, 91, 50, 59, 51, 72]⟩, ⟨#[27, 91, 75]⟩, ⟨#[27, 91, 49, 75]⟩, ⟨#[27, 91, 50, 74]⟩, ⟨#[27, 91, 74]⟩, ⟨#[27, 91, 49, 74]⟩, ⟨#[27, 91, 50, 59, 51, 114]⟩, ⟨#[27, 91, 114]⟩, ⟨#[27, 91, 76]⟩, ⟨#[27, 91, 50, 77]⟩, ⟨#[27, 91, 64]⟩, ⟨#[27, 91, 50, 80]⟩, ⟨#[27, 91, 88]⟩, ⟨#[27, 91, 83]⟩, ⟨#[27, 91, 84]⟩, ⟨#[27, 91, 50, 71]⟩, ⟨#[27, 91, 51, 100]⟩, ⟨#[27, 91, 49, 59, 51, 49, 109]⟩, ⟨#[27, 91, 48, 109]⟩, ⟨#[27, 91, 55, 59, 52, 52, 109]⟩, ⟨#[27, 91, 63, 55, 108]⟩, ⟨#[27, 91, 63, 55, 104]⟩, ⟨#[27, 91, 63, 50, 53, 108]⟩, ⟨#[27, 91, 63, 49, 48, 52, 57, 104]⟩, ⟨#[27, 91, 63, 49, 48, 52, 57, 108]⟩, ⟨#[27, 91, 103]⟩, ⟨#[27, 91, 51, 103]⟩] : List ByteArray) → x.data.toList.length ≤ 20 := by decide
     exact h9 _ (gat_mem (F := encS) (by show _ < 32; omega))
   refine WL.appendG (hs83.fr L17) ho18 (srcStr Tryz.underlying9 _) Tryz.underlying22 inf5 rfl rfl rfl rfl rfl rfl rfl rfl rfl rfl ?_ (fun A87 c88 L84 whs85 hs85 ho86 => ?_)
   · (try simp only [List.length_append, List.length_singleton]); omega
   replace hs85 := St.back [_] hs85
   refine WL.r 1 hs85 [] rfl (WL.nil (hK23 _ _ (WC.region (WL.r 3 hs85 [] rfl (WL.nil (tkN ?_))))))
   replace hs85 := (hs85.rm L72)
   have hF89 := (St.grp1 (L1 := L84) [_] ((hs85.fr L84).fb b_c))
   refine ⟨sbF rfl, _, hF89, _, ?_, _, i79, h80, _, A87, c88, L84, rfl, rfl, ?_, ?_, ?_, ho86, ⟨rfl, rfl, trivial⟩⟩
   · omega
   · first | (simp only [List.length_append, List.length_singleton]; omega) | (simp only [List.length_append]; omega)
   · omega
   · omega
  refine WC.r1 hs30 [] rfl (WC.cD rfl (fun qh90 => ?_) (fun qh90 => ?_))
  ·refine WC.region (WL.r 1 hs30 [] rfl (WL.buildF (F := encS) hs30 ([⟨#[27, 77]⟩, ⟨#[27, 68]⟩, ⟨#[27, 69]⟩, ⟨#[27, 55]⟩, ⟨#[27, 56]⟩, ⟨#[27, 99]⟩, ⟨#[27, 72]⟩, ⟨#[27, 91, 33, 112]⟩, ⟨#[27, 91, 49, 59, 50, 59, 51, 59, 52, 59, 53, 59, 54, 59, 55, 59, 56, 59, 57, 109]⟩, ⟨#[27, 91]⟩, ⟨#[27]⟩, ⟨#[27, 91, 51]⟩, ⟨#[228, 184]⟩, ⟨#[195]⟩, ⟨#[27, 91, 57, 57, 57, 57, 57, 67]⟩, ⟨#[27, 91, 48, 59, 48, 72]⟩]) Tryz.runUnderlying90 Tryz.sizeOf9 Tryz.zeroValue9 rfl rfl rfl rfl rfl rfl rfl rfl rfl rfl rfl rfl (fun A94 c95 L91 whs92 hs92 ho93 => ?_)))
   replace hs92 := St.back [_] hs92
   refine WL.r 1 hs92 [] rfl ?_
   have hF96 : St _ _ ([(b_c, _)] ++ _) _ := hs92
   refine WL.call rfl rfl rfl (Run.call Tryz.call14 rfl rfl rfl) (k104_ _ _ _ _ _ _ _ _ _ (hF96.own _ List.mem_cons_self).1 (SlF.st f_s hs92 s_s) (St.sepT hF96 f_s s_s) ?_ ?_) ?_
   · omega
   · omega
   rintro _ whs102 ⟨r97, i98, h99, rfl, hs102, hr100, hi101⟩
   replace hs102 := St.lend1 hF96 hs102
   try have hbhr100 := hr100.2 (by omega)
   refine ⟨_, rfl, WL.val rfl rfl rfl (Run.idxK (r97.toNat) Tryz.runUnderlying90 Tryz.sizeOf9 rfl rfl rfl ?_ ?_ ?_) ?_⟩
   · exact SlF.some_ (SlF.ofOwn ho93 (hs102.ow L91))
   · first | omega | (show _ < 9; omega) | (show _ < 32; omega) | (show _ < 16; omega)
   · first | omega | (show _ < 9; omega) | (show _ < 32; omega) | (show _ < 16; omega)
   refine WL.val rfl rfl rfl (Run.load Tryz.isAgg9 rfl rfl (SlF.one1 (SlF.ofOwn ho93 (hs102.ow L91)) ?_ rfl)) ?_
   · first | omega | (show _ < 9; omega) | (show _ < 32; omega) | (show _ < 16; omega)
   have hsl : (gat encS [⟨#[27, 77]⟩, ⟨#[27, 68]⟩, ⟨#[27, 69]⟩, ⟨#[27, 55]⟩, ⟨#[27, 56]⟩, ⟨#[27, 99]⟩, ⟨#[27, 72]⟩, ⟨#[27, 91, 33, 112]⟩, ⟨#[27, 91, 49, 59, 50, 59, 51, 59, 52, 59, 53, 59, 54, 59, 55, 59, 56, 59, 57, 109]⟩, ⟨#[27, 91]⟩, ⟨#[27]⟩, ⟨#[27, 91, 51]⟩, ⟨#[228, 184]⟩, ⟨#[195]⟩, ⟨#[27, 91, 57, 57, 57, 57, 57, 67]⟩, ⟨#[27, 91, 48, 59, 48, 72]⟩] r97.toNat).data.toList.length ≤ 20 := by
     have h9 : ∀ x, x ∈ ([⟨#[27, 77]⟩, ⟨#[27, 68]⟩, ⟨#[27, 69]⟩, ⟨#[27, 55]⟩, ⟨#[27, 56]⟩, ⟨#[27, 99]⟩, ⟨#[27, 72]⟩, ⟨#[27, 91, 33, 112]⟩, ⟨#[27, 91, 49, 59, 50, 59, 51, 59, 52, 59, 53, 59, 54, 59, 55, 59, 56, 59, 57, 109]⟩, ⟨#[27, 91]⟩, ⟨#[27]⟩, ⟨#[27, 91, 51]⟩, ⟨#[228, 184]⟩, ⟨#[195]⟩, ⟨#[27, 91, 57, 57, 57, 57, 57, 67]⟩, ⟨#[27, 91, 48, 59, 48, 72]⟩] : List ByteArray) → x.data.toList.length ≤ 20 := by decide
     exact h9 _ (gat_mem (F := encS) (by show _ < 16; omega))
   refine WL.appendG (hs102.fr L17) ho18 (srcStr Tryz.underlying9 _) Tryz.underlying22 inf5 rfl rfl rfl rfl rfl rfl rfl rfl rfl rfl ?_ (fun A106 c107 L103 whs104 hs104 ho105 => ?_)
   · (try simp only [List.length_append, List.length_singleton]); omega
   replace hs104 := St.back [_] hs104
   refine WL.r 1 hs104 [] rfl (WL.nil (hK23 _ _ (WC.region (WL.r 3 hs104 [] rfl (WL.nil (tkN ?_))))))
   replace hs104 := (hs104.rm L91)
   have hF108 := (St.grp1 (L1 := L103) [_] ((hs104.fr L103).fb b_c))
   refine ⟨sbF rfl, _, hF108, _, ?_, _, i98, h99, _, A106, c107, L103, rfl, rfl, ?_, ?_, ?_, ho105, ⟨rfl, rfl, trivial⟩⟩
   · omega
   · first | (simp only [List.length_append, List.length_singleton]; omega) | (simp only [List.length_append]; omega)
   · omega
   · omega
  refine WC.region (WL.r 2 hs30 [] rfl ?_)
  have hF109 : St _ _ ([(b_c, _)] ++ _) _ := hs30
  refine WL.call rfl rfl rfl (Run.call Tryz.call25 rfl rfl rfl) (k103_ _ _ _ _ _ _ _ _ (hF109.own _ List.mem_cons_self).1 (SlF.st f_s hs30 s_s) (St.sepT hF109 f_s s_s) ?_ ?_) ?_
  · omega
  · omega
  rintro _ whs115 ⟨r110, i111, h112, rfl, hs115, hr113, hi114⟩
  replace hs115 := St.lend1 hF109 hs115
  refine ⟨_, rfl, WL.r 1 hs115 [] rfl (WL.buildSlice hs115 Tryz.runUnderlying22 Tryz.sizeOf5 Tryz.zeroValue5 rfl rfl rfl rfl rfl rfl rfl rfl rfl rfl (fun b116 whs117 hs117 => ?_))⟩
  refine WL.appendG (hs117.fr L17) ho18 (srcB1 Tryz.underlying22 (hs117.own _ (nthL_mem (i := 0) rfl)).1) Tryz.underlying22 inf5 rfl rfl rfl rfl rfl rfl rfl rfl rfl rfl ?_ (fun A121 c122 L118 whs119 hs119 ho120 => ?_)
  · (try simp only [List.length_append, List.length_singleton]); omega
  replace hs119 := St.back [_, _] hs119
  refine WL.r 1 hs119 [] rfl (WL.nil (hK23 _ _ (WC.region (WL.r 3 hs119 [] rfl (WL.nil (tkN ?_))))))
  replace hs119 := hs119.d1
  have hF123 := (St.grp1 (L1 := L118) [_] ((hs119.fr L118).fb b_c))
  refine ⟨sbF rfl, _, hF123, _, ?_, _, i111, h112, _, A121, c122, L118, rfl, rfl, ?_, ?_, ?_, ho120, ⟨rfl, rfl, trivial⟩⟩
  · omega
  · first | (simp only [List.length_append, List.length_singleton]; omega) | (simp only [List.length_append]; omega)
  · omega
  · omega
 refine WC.exit (hK7 _ _ (WC.r1 hs20 [] rfl (WC.ret (retV1 rfl (resV.tmp rfl) (⟨_, _, zs, _, _, _, rfl, St.keepP (L1 := L17) ((hs20.fr L17).fb b_c), ho18, by omega, by omega⟩)))))
theorem k127_ (t : TermR) (w : World) (f_t : okTermR 549755813888 w t) :
    Calls Tryz.prog 18 #[.agg #[i64 t.P.State, .bool t.P.Mark, .slice t.P.Args.A t.P.Args.n t.P.Args.c, .slice t.P.Part.A t.P.Part.n t.P.Part.c, i64 t.S.W, i64 t.S.H, i64 t.S.Main.W, i64 t.S.Main.H, .slice t.S.Main.Cells.A t.S.Main.Cells.n t.S.Main.Cells.c, i64 t.S.Alt.W, i64 t.S.Alt.H, .slice t.S.Alt.Cells.A t.S.Alt.Cells.n t.S.Alt.Cells.c, .bool t.S.OnAlt, i64 t.S.X, i64 t.S.Y, .bool t.S.Wrap, i64 t.S.A.Fg, i64 t.S.A.Bg, .bool t.S.A.Bold, .bool t.S.A.Under, .bool t.S.A.Turn, i64 t.S.Top, i64 t.S.Bot, .bool t.S.NoWrap, .bool t.S.Hide, i64 t.S.SaveX, i64 t.S.SaveY, i64 t.S.SaveA.Fg, i64 t.S.SaveA.Bg, .bool t.S.SaveA.Bold, .bool t.S.SaveA.Under, .bool t.S.SaveA.Turn, .slice t.S.Tabs.A t.S.Tabs.n t.S.Tabs.c, i64 t.S.Limit, .slice t.S.Back.A t.S.Back.n t.S.Back.c]] w fun e w' => e = .returned (.bool (termOk t.dat)) ∧ St w [] [] w' := by
 have nb_t_P_Args := f_t.P.Args_n
 have nl_t_P_Args := f_t.P.Args.len
 have nb_t_P_Part := f_t.P.Part_n
 have nl_t_P_Part := f_t.P.Part.len
 have nb_t_S_Main_Cells := f_t.S.Main.Cells_n
 have nl_t_S_Main_Cells := f_t.S.Main.Cells.len
 have nb_t_S_Alt_Cells := f_t.S.Alt.Cells_n
 have nl_t_S_Alt_Cells := f_t.S.Alt.Cells.len
 have nb_t_S_Tabs := f_t.S.Tabs_n
 have nl_t_S_Tabs := f_t.S.Tabs.len
 have nb_t_S_Back := f_t.S.Back_n
 have nl_t_S_Back := f_t.S.Back.sl.len
 refine enter 11 Tryz.func18 rfl Tryz.ntmps18 rfl rfl ?_
 have hs1 := St.init w
 refine WC.sr (WL.bx hs1 rfl (fun b2 _ hs3 => WL.r 1 hs3 [] rfl (WL.nil (WC.sr (WL.r 2 hs3 [0] rfl (WL.cl Tryz.call32 rfl (k94_ t.P _ (okVpR.st0 f_t.P hs3)) ?_))))))
 rintro _ whs4 ⟨rfl, hs4⟩
 replace hs4 := hs3.call0 hs4
 refine ⟨_, rfl, WL.r 1 hs4 [] rfl ?_⟩
 apply WL.gA 3 Acts.nil hs4 rfl
 ·intro g5 J6
  have qg5 := g5
  try simp only [bf, within_iff, within_not] at qg5
  refine WL.runA tbk 2 (Acts.nil.cons (j := 3) rfl g5) hs4 [0] rfl ⟨rfl, trivial⟩ (WL.call (wantT rfl g5) rfl rfl (Run.call Tryz.call33 rfl rfl rfl) (k40_ t.S _ (okScrR.st0 f_t.S hs4)) ?_)
  rintro _ whs7 ⟨rfl, hs7⟩
  replace hs7 := hs4.call0 hs7
  refine ⟨_, rfl, WL.eA 3 Acts.nil J6 hs7 g5 rfl rfl⟩
 intro _ hs8
 refine WL.r 1 hs8 [] rfl (WL.nil (WC.ret (rtv rfl rfl hs8 ?_)))
 rfl
theorem k128_ (t : TermR) (w : World) (f_t : okTermR 549755813888 w t) :
    Calls Tryz.prog 16 #[.agg #[i64 t.P.State, .bool t.P.Mark, .slice t.P.Args.A t.P.Args.n t.P.Args.c, .slice t.P.Part.A t.P.Part.n t.P.Part.c, i64 t.S.W, i64 t.S.H, i64 t.S.Main.W, i64 t.S.Main.H, .slice t.S.Main.Cells.A t.S.Main.Cells.n t.S.Main.Cells.c, i64 t.S.Alt.W, i64 t.S.Alt.H, .slice t.S.Alt.Cells.A t.S.Alt.Cells.n t.S.Alt.Cells.c, .bool t.S.OnAlt, i64 t.S.X, i64 t.S.Y, .bool t.S.Wrap, i64 t.S.A.Fg, i64 t.S.A.Bg, .bool t.S.A.Bold, .bool t.S.A.Under, .bool t.S.A.Turn, i64 t.S.Top, i64 t.S.Bot, .bool t.S.NoWrap, .bool t.S.Hide, i64 t.S.SaveX, i64 t.S.SaveY, i64 t.S.SaveA.Fg, i64 t.S.SaveA.Bg, .bool t.S.SaveA.Bold, .bool t.S.SaveA.Under, .bool t.S.SaveA.Turn, .slice t.S.Tabs.A t.S.Tabs.n t.S.Tabs.c, i64 t.S.Limit, .slice t.S.Back.A t.S.Back.n t.S.Back.c]] w fun e w' => e = .returned (.bool (termOk t.dat)) ∧ St w [] [] w' := by
 have nb_t_P_Args := f_t.P.Args_n
 have nl_t_P_Args := f_t.P.Args.len
 have nb_t_P_Part := f_t.P.Part_n
 have nl_t_P_Part := f_t.P.Part.len
 have nb_t_S_Main_Cells := f_t.S.Main.Cells_n
 have nl_t_S_Main_Cells := f_t.S.Main.Cells.len
 have nb_t_S_Alt_Cells := f_t.S.Alt.Cells_n
 have nl_t_S_Alt_Cells := f_t.S.Alt.Cells.len
 have nb_t_S_Tabs := f_t.S.Tabs_n
 have nl_t_S_Tabs := f_t.S.Tabs.len
 have nb_t_S_Back := f_t.S.Back_n
 have nl_t_S_Back := f_t.S.Back.sl.len
 refine enter 11 Tryz.func16 rfl Tryz.ntmps16 rfl rfl ?_
 have hs1 := St.init w
 refine WC.sr (WL.bx hs1 rfl (fun b2 _ hs3 => WL.r 1 hs3 [] rfl (WL.nil (WC.sr (WL.r 2 hs3 [0] rfl (WL.cl Tryz.call29 rfl (k95_ t.P _ (okVpR.st0 f_t.P hs3)) ?_))))))
 rintro _ whs4 ⟨rfl, hs4⟩
 replace hs4 := hs3.call0 hs4
 refine ⟨_, rfl, WL.r 1 hs4 [] rfl ?_⟩
 apply WL.gA 3 Acts.nil hs4 rfl
 ·intro g5 J6
  have qg5 := g5
  try simp only [bf, within_iff, within_not] at qg5
  refine WL.runA tbk 2 (Acts.nil.cons (j := 3) rfl g5) hs4 [0] rfl ⟨rfl, trivial⟩ (WL.call (wantT rfl g5) rfl rfl (Run.call Tryz.call30 rfl rfl rfl) (k43_ t.S _ (okScrR.st0 f_t.S hs4)) ?_)
  rintro _ whs7 ⟨rfl, hs7⟩
  replace hs7 := hs4.call0 hs7
  refine ⟨_, rfl, WL.eA 3 Acts.nil J6 hs7 g5 rfl rfl⟩
 intro _ hs8
 refine WL.r 1 hs8 [] rfl (WL.nil (WC.ret (rtv rfl rfl hs8 ?_)))
 rfl
theorem k129_ (u_0 u_1 u_2 u_3 : Value) (b_s : Nat) (s : ScrR) (L_s : Hp) (w : World) (hb_s : w.heap[b_s]? = some (Obj.cells (List.toArray (u_0 :: u_1 :: u_2 :: u_3 :: (cScr s))) 36 (0, 0))) (o_s : ownScrR s L_s) (h_s : Hh w L_s) (hd_ : (b_s :: L_s.map (·.1)).Nodup) (hx : s.OnAlt = false) :
    Calls Tryz.prog 74 #[.pointer (some ⟨b_s, 4, none⟩)] w fun e w' => ∃ r L1, e = .returned (.pointer (some ⟨b_s, 6, none⟩)) ∧ St w (b_s :: L_s.map (·.1)) ([(b_s, Obj.cells (List.toArray (u_0 :: u_1 :: u_2 :: u_3 :: (cScr r))) 36 (0, 0))] ++ L1) w' ∧ ownScrR r L1 ∧ r.dat = s.dat := by
 refine enter 13 Tryz.func74 rfl Tryz.ntmps74 rfl rfl ?_
 have hs1 := St.takeP w b_s _ L_s hb_s h_s hd_
 refine WC.r1 hs1 [] rfl (WC.seq (fun K2 hK2 => WC.r1 hs1 [0] rfl ?_))
 refine WC.cq rfl (fun h3 qh3 => ?_) (fun h3 qh3 => ?_)
 ·exfalso; have h9 := h3; rw [hx] at h9; revert h9; decide
 refine WC.skip (hK2 _ _ (WC.r1 hs1 [] rfl (WC.ret (retV1 rfl (resV.tmp rfl) (⟨s, _, rfl, St.keepP (L1 := L_s) ((hs1.fr L_s).fb b_s), o_s, ?_⟩)))))
 · rfl
theorem k130_ (u_0 u_1 u_2 u_3 : Value) (b_s : Nat) (s : ScrR) (L_s : Hp) (w : World) (hb_s : w.heap[b_s]? = some (Obj.cells (List.toArray (u_0 :: u_1 :: u_2 :: u_3 :: (cScr s))) 36 (0, 0))) (o_s : ownScrR s L_s) (h_s : Hh w L_s) (hd_ : (b_s :: L_s.map (·.1)).Nodup) (hx : s.OnAlt = true) :
    Calls Tryz.prog 74 #[.pointer (some ⟨b_s, 4, none⟩)] w fun e w' => ∃ r L1, e = .returned (.pointer (some ⟨b_s, 9, none⟩)) ∧ St w (b_s :: L_s.map (·.1)) ([(b_s, Obj.cells (List.toArray (u_0 :: u_1 :: u_2 :: u_3 :: (cScr r))) 36 (0, 0))] ++ L1) w' ∧ ownScrR r L1 ∧ r.dat = s.dat := by
 refine enter 13 Tryz.func74 rfl Tryz.ntmps74 rfl rfl ?_
 have hs1 := St.takeP w b_s _ L_s hb_s h_s hd_
 refine WC.r1 hs1 [] rfl (WC.seq (fun K2 hK2 => WC.r1 hs1 [0] rfl ?_))
 refine WC.cq rfl (fun h3 qh3 => ?_) (fun h3 qh3 => ?_)
 ·refine WC.r1 hs1 [] rfl (WC.ret (tkR ?_))
  clear hK2
  refine retV1 rfl (resV.tmp rfl) (⟨s, _, rfl, St.keepP (L1 := L_s) ((hs1.fr L_s).fb b_s), o_s, ?_⟩)
  · rfl
 exfalso; have h9 := h3; rw [hx] at h9; revert h9; decide
theorem k131_ (u_0 u_1 u_2 u_3 : Value) (b_s : Nat) (s : ScrR) (L_s : Hp) (n : Nat) (w : World) (hb_s : w.heap[b_s]? = some (Obj.cells (List.toArray (u_0 :: u_1 :: u_2 :: u_3 :: (cScr s))) 36 (0, 0))) (o_s : ownScrR s L_s) (h_s : Hh w L_s) (hd_ : (b_s :: L_s.map (·.1)).Nodup) (hm : gridOk s.Main.dat = true) (hlim : 0 ≤ s.Limit ∧ s.Limit ≤ 1048576) (hb : (s.Back.xs.length : Int) ≤ s.Limit) (hn : (n : Int) ≤ s.Main.H) (hsm : smScr 1048576 s.dat) :
    Calls Tryz.prog 145 #[.pointer (some ⟨b_s, 4, none⟩), .int .i64 n] w fun e w' => ∃ r L1, e = .returned (.tuple #[]) ∧ St w (b_s :: L_s.map (·.1)) ([(b_s, Obj.cells (List.toArray (u_0 :: u_1 :: u_2 :: u_3 :: (cScr r))) 36 (0, 0))] ++ L1) w' ∧ ownScrR r L1 ∧ r.dat = keepRows s.dat n := by
 have hsmB : smScr 549755813888 s.dat := smScr_mono hsm (by decide)
 have hgb : (1 ≤ s.Main.W ∧ s.Main.W ≤ 120) ∧ (1 ≤ s.Main.H ∧ s.Main.H ≤ 120) ∧ 1 ≤ s.Main.W * s.Main.H ∧ s.Main.W * s.Main.H ≤ 4000 := gridOk_bnd hm
 have hgl : (s.Main.Cells.xs.length : Int) = s.Main.W * s.Main.H := by have h_ := hm; unfold gridOk at h_; rw [Bool.and_eq_true, Bool.and_eq_true, decide_eq_true_eq] at h_; exact h_.1.2
 refine enter 49 Tryz.func145 rfl Tryz.ntmps145 rfl rfl ?_
 have hs1 := St.takeP w b_s _ L_s hb_s h_s hd_
 refine WC.seq (fun K2 hK2 => WC.r1 hs1 [] rfl (WC.block ?_))
 have hM7 := (St.grp1 (L1 := L_s) [_] ((hs1.fr L_s).fb b_s))
 refine WC.lV [0, 6] rfl hM7 (fun k_ (a_ : Hp) f => ∃ (i : Nat) (r : ScrR) (L5 : Hp), k_ = n - i ∧ a_ = [(b_s, .cells (List.toArray (u_0 :: u_1 :: u_2 :: u_3 :: (cScr r))) 36 (0, 0))] ++ L5 ∧ (i ≤ n) ∧ (r.dat = keepTo s.dat i) ∧ ownScrR r L5 ∧ Sub [(7, .int .i64 i)] f) (((fun (i : Nat) => n - i) (0))) ?_ ?_
 ·refine ⟨0, s, L_s, rfl, rfl, ?_, ?_, o_s, ⟨rfl, trivial⟩⟩
  · omega
  · exact keepTo_zero.symm
 rintro _ _ f w ⟨i, r, L5, rfl, rfl, p0, p1, ho6, hG⟩ hF hs8
 refine WC.sub _ (hG.app hF) ?_
 clear hG hF
 replace hs8 := St.ungrp1 [_] hs8
 have hsmr : smScr 549755813888 r.dat := by rw [p1]; exact keepTo_sm (smScr_mono hsm (by decide)) hm (by simp only [ScrR.dat, List.length_map]; omega) (by decide)
 have hrb : r.Back.xs.length = s.Back.xs.length + i := by have h9 := congrArg (fun d : ScrD => d.Back.length) p1; simpa [ScrR.dat, keepTo] using h9
 have hrm : r.Main.dat = s.Main.dat := congrArg ScrD.Main p1
 have hrW : r.Main.W = s.Main.W := congrArg GridD.W hrm
 have hrC : r.Main.Cells.xs = s.Main.Cells.xs := congrArg GridD.Cells hrm
 have hrL : r.Limit = s.Limit := congrArg ScrD.Limit p1
 obtain ⟨⟨hrn1, hrn2⟩, _, _, hrn3, hrn4⟩ := ownScrR.lens ‹ownScrR r _›
 refine WC.r1 hs8 [] rfl (WC.seq (fun K9 hK9 => ?_))
 refine WC.cD rfl (fun qh10 => ?_) (fun qh10 => ?_)
 ·have hv0 : 0 ≤ (i : Int) * r.Main.W := Int.mul_nonneg (by omega) (by omega)
  have hv1 : ((i : Int) + 1) * r.Main.W = (i : Int) * r.Main.W + r.Main.W := by rw [Int.add_mul, Int.one_mul]
  have hv2 : ((i : Int) + 1) * r.Main.W ≤ s.Main.H * s.Main.W := by rw [hrW]; exact Int.mul_le_mul_of_nonneg_right (by omega) (by omega)
  rw [Int.mul_comm s.Main.H] at hv2
  have hrl : r.Main.Cells.xs.length = s.Main.Cells.xs.length := congrArg List.length hrC
  have hrow : (RowD.mk ((r.Main.Cells.xs.drop ((i : Int) * r.Main.W).toNat).take ((((i : Int) + 1) * r.Main.W).toNat - ((i : Int) * r.Main.W).toNat))) = rowAt s.dat.Main i := by
    have e1 : ((i : Int) * r.Main.W).toNat = i * s.Main.W.toNat := by rw [hrW]; exact toNat_mul_nat (by omega)
    have e2 : (((i : Int) + 1) * r.Main.W).toNat - i * s.Main.W.toNat = s.Main.W.toNat := by rw [← e1]; omega
    rw [e1, e2, hrC]; rfl
  refine WC.skip (hK9 _ _ (WC.seq (fun K11 hK11 => WC.block (WC.r1 hs8 [] rfl (WC.rG 17 (hs8.d1.rm L5) (hs8.rm L5) hs8 (fun _ hs12 => ?_))))))
  refine WG.rn [0, 1, 2, 3, 4, 5, 6, 7, 8, 9] (hs12.rm L5) [0, 0] rfl rfl (WG.o1 10 rfl rfl (WL.cl Tryz.call75 rfl (k48_ r.Main _ _ (ownScrR.ok (B := 549755813888) ho6 (hs12.ow L5) hsmr).Main ?_ ?_ ?_ ?_) ?_))
  iterate 4 first | assumption | rfl | omega
  rintro _ whs13 ⟨rfl, hs13⟩
  replace hs13 := hs12.call0 hs13
  refine ⟨_, rfl, WL.nil ⟨(hs13.rm L5), WG.o1 11 rfl rfl ?_⟩⟩
  refine WL.cl Tryz.call70 rfl (k44_ _ _ _ _ _ (SlF.cutC (lo := ((i : Int) * r.Main.W).toNat) (hi := (((i : Int) + 1) * r.Main.W).toNat) (ownScrR.ok (B := 549755813888) ho6 (hs13.ow L5) hsmr).Main.Cells (by refine ⟨?_, ?_, ?_⟩ <;> (omega))) ?_) ?_
  · first | assumption | rfl | omega
  rintro _ whs14 ⟨A15, c16, L1_17, rfl, hs14, ho18⟩
  replace hs14 := hs13.callF hs14
  refine ⟨_, rfl, ?_⟩
  replace hs14 := St.back [_] hs14
  refine WL.nil ⟨((hs14.rm L1_17).rm L5), ?_⟩
  refine WG.tk 12 rfl (by kernel_rfl) rfl rfl rfl ((hs14.rm L1_17).rm L5) (fun w_ hs_ => (Run.build rfl rfl rfl rfl (built_93_0 _ _ _))) ?_
  refine WG.o1 13 rfl rfl (WL.buildSlice hs14 Tryz.runUnderlying32 Tryz.sizeOf93 Tryz.zeroValue93 rfl rfl rfl rfl rfl rfl rfl rfl rfl rfl (fun b19 whs20 hs20 => WL.nil ⟨((hs20.d1.rm L1_17).rm L5), WG.o1 14 rfl rfl ?_⟩))
  obtain ⟨L21, L22, L23, L24, hs29, ho25, ho26, ho27, ho28⟩ := ownScrR.op hs20 ho6
  have hs30 := ((hs29.fb b_s).fb b19)
  obtain ⟨L31, L32, hs35, ho33, ho34⟩ := OwnN.open_ (hs30.fr L24) ho28
  have hs36 := ((hs35.fb b_s).fb b19)
  refine WL.appendG (hs36.fr L31) ho33 (srcF (F := encRowR) (ys := [(⟨SlD.of ho18⟩ : RowR)]) Tryz.underlying32 rfl rfl (hs36.own _ (nthL_mem (i := 0) rfl)).1) Tryz.underlying32 inf93 rfl rfl rfl rfl rfl rfl rfl rfl rfl rfl ?_ (fun A40 c41 L37 whs38 hs38 ho39 => ?_)
  · simp; omega
  replace hs38 := St.back [_, _] hs38
  obtain ⟨L42, hs43, hb44⟩ := Bag.put (x := (⟨SlD.of ho18⟩ : RowR)) ((hs38.fr L1_17).fr L32) ho34 ho18
  have hs45 := ((hs43.fb b_s).fb b19)
  obtain ⟨L47, hs46, ho48⟩ := OwnN.fold ((hs45.fr L42).fr L37) ho39 hb44
  have hs49 := ((hs46.fb b_s).fb b19)
  refine WL.nil ⟨((((hs49.d1.rm L47).rm L21).rm L22).rm L23), WG.rn [15, 16] ((((hs49.d1.rm L47).rm L21).rm L22).rm L23) [] rfl rfl (WG.oK rfl (WL.st tbk hs49 1 rfl rfl (fun _ hs50 => WL.nil ⟨((((hs50.d1.d1.rm L47).rm L21).rm L22).rm L23), WH.dn (hK11 _ _ (WC.region ?_))⟩)))⟩
  refine WL.r 2 hs50 [] rfl (WL.nil (tkN ?_))
  obtain ⟨L52, hs51, ho53⟩ := ownScrR.fl hs50 ho25 ho26 ho27 ho48
  have hs54 := ((hs51.fb b_s).fb b19)
  replace hs54 := hs54.d1
  have hF55 := (St.grp1 (L1 := L52) [_] ((hs54.fr L52).fb b_s))
  refine ⟨sbF rfl, _, hF55, _, ?_, i + 1, ⟨r.W, r.H, ⟨r.Main.W, r.Main.H, SlD.of ho25⟩, ⟨r.Alt.W, r.Alt.H, SlD.of ho26⟩, r.OnAlt, r.X, r.Y, r.Wrap, ⟨r.A.Fg, r.A.Bg, r.A.Bold, r.A.Under, r.A.Turn⟩, r.Top, r.Bot, r.NoWrap, r.Hide, r.SaveX, r.SaveY, ⟨r.SaveA.Fg, r.SaveA.Bg, r.SaveA.Bold, r.SaveA.Under, r.SaveA.Turn⟩, SlD.of ho27, r.Limit, SlD.ofN ho48⟩, L52, rfl, rfl, ?_, ?_, (by exact ho53), ⟨rfl, trivial⟩⟩
  · omega
  · omega
  · rw [keepTo_succ (r := ⟨_⟩) hrow, ← p1]; simp only [ScrR.dat, List.map_append, List.map_cons, List.map_nil]; rfl
 have hin : i = n := by omega
 rw [hin] at p1
 have hrd : r.dat.Back.length = r.Back.xs.length := List.length_map _
 refine WC.exit (hK2 _ _ (WC.q1 hs8 [0, 0] rfl (fun _ hs56 => WC.r1 hs56 [] rfl ?_)))
 refine WC.cD rfl (fun qh57 => ?_) (fun qh57 => ?_)
 ·refine WC.region (WL.r 6 hs56 [0] rfl ?_)
  obtain ⟨L59, L60, L61, L62, hs67, ho63, ho64, ho65, ho66⟩ := ownScrR.op hs56 ho6
  have hs68 := (hs67.fb b_s)
  refine WL.cl Tryz.call165 rfl (k54_ _ _ _ _ _ _ ho66 (hs68.ow L62) (St.nodupL (hs68.fr L62)) ?_ ?_ ?_) ?_
  iterate 3 first | assumption | rfl | omega
  rintro _ whs58 ⟨A69, c70, n71, xs72, L1_73, rfl, hs58, ho74, hd75⟩
  replace hs58 := St.lend (hs68.fr L62) hs58
  refine ⟨_, rfl, ?_⟩
  replace hs58 := St.back [_] hs58
  refine WL.r 2 hs58 [] rfl (WL.st tbk hs58 0 rfl rfl (fun _ hs76 => WL.nil (retK0 rfl ?_)))
  obtain ⟨L78, hs77, ho79⟩ := ownScrR.fl hs76 ho63 ho64 ho65 ho74
  have hs80 := (hs77.fb b_s)
  refine ownScrR.retp4 rfl ((hs80.fr L78).fb b_s) ho79 ?_
  · refine Eq.trans ?_ (keepTo_drop p1 (k := ((r.Back.n : Int) - r.Limit).toNat) (by show _ = _ - s.Limit.toNat; omega)); simp only [ScrR.dat, hd75, List.map_drop]
 refine WC.skip (retK0 rfl (⟨r, _, rfl, St.keepP (L1 := L5) ((hs56.fr L5).fb b_s), ho6, ?_⟩))
 · exact keepTo_all p1 (by show _ ≤ s.Limit.toNat; omega)
theorem k132_ (u_0 u_1 u_2 u_3 : Value) (b_s : Nat) (s : ScrR) (L_s : Hp) (top : Int) (bot : Int) (n : Int) (w : World) (hb_s : w.heap[b_s]? = some (Obj.cells (List.toArray (u_0 :: u_1 :: u_2 :: u_3 :: (cScr s))) 36 (0, 0))) (o_s : ownScrR s L_s) (h_s : Hh w L_s) (hd_ : (b_s :: L_s.map (·.1)).Nodup) (hg : gridOk (shownD s.dat) = true) (ht : 0 ≤ top ∧ top ≤ bot ∧ bot < (shownD s.dat).H) (hn : -100000 ≤ n ∧ n ≤ 100000) (hsmB : smScr 549755813888 s.dat) (hx : s.OnAlt = false) :
    Calls Tryz.prog 112 #[.pointer (some ⟨b_s, 4, none⟩), i64 top, i64 bot, i64 n] w fun e w' => ∃ r L1, e = .returned (.tuple #[]) ∧ St w (b_s :: L_s.map (·.1)) ([(b_s, Obj.cells (List.toArray (u_0 :: u_1 :: u_2 :: u_3 :: (cScr r))) 36 (0, 0))] ++ L1) w' ∧ ownScrR r L1 ∧ r.dat = rollD s.dat top bot n := by
 refine enter 20 Tryz.func112 rfl Tryz.ntmps112 rfl rfl ?_
 have hs1 := St.takeP w b_s _ L_s hb_s h_s hd_
 refine WC.sr (WL.r 1 hs1 [] rfl ?_)
 have hF2 := ((hs1.fr L_s).fb b_s)
 refine WL.cl Tryz.call74 rfl (k129_ _ _ _ _ _ s _ _ (St.headP hF2) o_s (St.ownP hF2) (St.nodupP hF2) ?_) ?_
 · first | assumption | rfl | omega
 rintro _ whs3 ⟨r4, L5, rfl, hs3, ho6, hd7⟩
 replace hs3 := St.lendP hF2 hs3
 refine ⟨_, rfl, ?_⟩
 have hd2 := hd7
 have hM2 : r4.Main.dat = shownD s.dat := (congrArg ScrD.Main hd2).trans (by unfold shownD; rw [if_neg (show ¬ s.dat.OnAlt = true from by show ¬ s.OnAlt = true; first | exact hx | (rw [hx]; decide))])
 have hg2 : gridOk r4.Main.dat = true := by rw [hM2]; exact hg
 have ht2 : 0 ≤ top ∧ top ≤ bot ∧ bot < r4.Main.H := by have h9 := congrArg GridD.H hM2; simp only [GridR.dat] at h9; rw [h9]; exact ht
 refine WL.r 1 hs3 [] rfl (WL.nil (WC.region (WL.r 7 hs3 [0] rfl ?_)))
 refine WL.cl Tryz.call146 rfl (k71_ r4.Main _ _ _ _ (ownScrR.ok (B := 549755813888) ho6 (hs3.ow L5) (by rw [hd7]; assumption)).Main ?_ ?_ ?_) ?_
 iterate 3 first | assumption | rfl | omega
 rintro _ whs8 ⟨r9, L1_10, rfl, hs8, ho11, hd12⟩
 replace hs8 := hs3.callF hs8
 refine ⟨_, rfl, ?_⟩
 replace hs8 := St.back [_] hs8
 have hd3 := hd12
 refine WL.r 1 hs8 [] rfl (WL.st tbk hs8 0 rfl rfl (fun _ hs13 => WL.nil (retK0 rfl ?_)))
 obtain ⟨L14, L15, L16, L17, hs22, ho18, ho19, ho20, ho21⟩ := ownScrR.op hs13 ho6
 have hs23 := (hs22.fb b_s)
 obtain ⟨L25, hs24, ho26⟩ := ownScrR.fl hs23 ho11 ho19 ho20 ho21
 have hs27 := (hs24.fb b_s)
 refine ownScrR.retp4 rfl ((hs27.fr L25).fb b_s) ho26 ?_
 · rw [show rollD s.dat top bot n = { s.dat with Main := gRoll (shownD s.dat) top bot n } from by unfold rollD putD; rw [if_neg (show ¬ s.dat.OnAlt = true from by show ¬ s.OnAlt = true; first | exact hx | (rw [hx]; decide))], ← hd2]; exact ScrD.ext' rfl rfl (hd3.trans (by rw [hM2, hd2])) rfl rfl rfl rfl rfl rfl rfl rfl rfl rfl rfl rfl rfl rfl rfl rfl
theorem k133_ (u_0 u_1 u_2 u_3 : Value) (b_s : Nat) (s : ScrR) (L_s : Hp) (top : Int) (bot : Int) (n : Int) (w : World) (hb_s : w.heap[b_s]? = some (Obj.cells (List.toArray (u_0 :: u_1 :: u_2 :: u_3 :: (cScr s))) 36 (0, 0))) (o_s : ownScrR s L_s) (h_s : Hh w L_s) (hd_ : (b_s :: L_s.map (·.1)).Nodup) (hg : gridOk (shownD s.dat) = true) (ht : 0 ≤ top ∧ top ≤ bot ∧ bot < (shownD s.dat).H) (hn : -100000 ≤ n ∧ n ≤ 100000) (hsmB : smScr 549755813888 s.dat) (hx : s.OnAlt = true) :
    Calls Tryz.prog 112 #[.pointer (some ⟨b_s, 4, none⟩), i64 top, i64 bot, i64 n] w fun e w' => ∃ r L1, e = .returned (.tuple #[]) ∧ St w (b_s :: L_s.map (·.1)) ([(b_s, Obj.cells (List.toArray (u_0 :: u_1 :: u_2 :: u_3 :: (cScr r))) 36 (0, 0))] ++ L1) w' ∧ ownScrR r L1 ∧ r.dat = rollD s.dat top bot n := by
 refine enter 20 Tryz.func112 rfl Tryz.ntmps112 rfl rfl ?_
 have hs1 := St.takeP w b_s _ L_s hb_s h_s hd_
 refine WC.sr (WL.r 1 hs1 [] rfl ?_)
 have hF2 := ((hs1.fr L_s).fb b_s)
 refine WL.cl Tryz.call74 rfl (k130_ _ _ _ _ _ s _ _ (St.headP hF2) o_s (St.ownP hF2) (St.nodupP hF2) ?_) ?_
 · first | assumption | rfl | omega
 rintro _ whs3 ⟨r4, L5, rfl, hs3, ho6, hd7⟩
 replace hs3 := St.lendP hF2 hs3
 refine ⟨_, rfl, ?_⟩
 have hd2 := hd7
 have hM2 : r4.Alt.dat = shownD s.dat := (congrArg ScrD.Alt hd2).trans (by unfold shownD; rw [if_pos (show  s.dat.OnAlt = true from by show  s.OnAlt = true; first | exact hx | (rw [hx]; decide))])
 have hg2 : gridOk r4.Alt.dat = true := by rw [hM2]; exact hg
 have ht2 : 0 ≤ top ∧ top ≤ bot ∧ bot < r4.Alt.H := by have h9 := congrArg GridD.H hM2; simp only [GridR.dat] at h9; rw [h9]; exact ht
 refine WL.r 1 hs3 [] rfl (WL.nil (WC.region (WL.r 7 hs3 [0] rfl ?_)))
 refine WL.cl Tryz.call146 rfl (k71_ r4.Alt _ _ _ _ (ownScrR.ok (B := 549755813888) ho6 (hs3.ow L5) (by rw [hd7]; assumption)).Alt ?_ ?_ ?_) ?_
 iterate 3 first | assumption | rfl | omega
 rintro _ whs8 ⟨r9, L1_10, rfl, hs8, ho11, hd12⟩
 replace hs8 := hs3.callF hs8
 refine ⟨_, rfl, ?_⟩
 replace hs8 := St.back [_] hs8
 have hd3 := hd12
 refine WL.r 1 hs8 [] rfl (WL.st tbk hs8 0 rfl rfl (fun _ hs13 => WL.nil (retK0 rfl ?_)))
 obtain ⟨L14, L15, L16, L17, hs22, ho18, ho19, ho20, ho21⟩ := ownScrR.op hs13 ho6
 have hs23 := (hs22.fb b_s)
 obtain ⟨L25, hs24, ho26⟩ := ownScrR.fl hs23 ho18 ho11 ho20 ho21
 have hs27 := (hs24.fb b_s)
 refine ownScrR.retp4 rfl ((hs27.fr L25).fb b_s) ho26 ?_
 · rw [show rollD s.dat top bot n = { s.dat with Alt := gRoll (shownD s.dat) top bot n } from by unfold rollD putD; rw [if_pos (show  s.dat.OnAlt = true from by show  s.OnAlt = true; first | exact hx | (rw [hx]; decide))], ← hd2]; exact ScrD.ext' rfl rfl rfl (hd3.trans (by rw [hM2, hd2])) rfl rfl rfl rfl rfl rfl rfl rfl rfl rfl rfl rfl rfl rfl rfl
theorem k134_ (u_0 u_1 u_2 u_3 : Value) (b_s : Nat) (s : ScrR) (L_s : Hp) (top : Int) (bot : Int) (n : Int) (w : World) (hb_s : w.heap[b_s]? = some (Obj.cells (List.toArray (u_0 :: u_1 :: u_2 :: u_3 :: (cScr s))) 36 (0, 0))) (o_s : ownScrR s L_s) (h_s : Hh w L_s) (hd_ : (b_s :: L_s.map (·.1)).Nodup) (hg : gridOk (shownD s.dat) = true) (ht : 0 ≤ top ∧ top ≤ bot ∧ bot < (shownD s.dat).H) (hn : -100000 ≤ n ∧ n ≤ 100000) (hsmB : smScr 549755813888 s.dat) :
    Calls Tryz.prog 112 #[.pointer (some ⟨b_s, 4, none⟩), i64 top, i64 bot, i64 n] w fun e w' => ∃ r L1, e = .returned (.tuple #[]) ∧ St w (b_s :: L_s.map (·.1)) ([(b_s, Obj.cells (List.toArray (u_0 :: u_1 :: u_2 :: u_3 :: (cScr r))) 36 (0, 0))] ++ L1) w' ∧ ownScrR r L1 ∧ r.dat = rollD s.dat top bot n := by
 rcases Bool.eq_false_or_eq_true s.OnAlt with hx_ | hx_
 · exact k133_ u_0 u_1 u_2 u_3 b_s s L_s top bot n w hb_s o_s h_s hd_ hg ht hn hsmB hx_
 · exact k132_ u_0 u_1 u_2 u_3 b_s s L_s top bot n w hb_s o_s h_s hd_ hg ht hn hsmB hx_
theorem k135_ (u_0 u_1 u_2 u_3 : Value) (b_s : Nat) (s : ScrR) (L_s : Hp) (n : Int) (w : World) (hb_s : w.heap[b_s]? = some (Obj.cells (List.toArray (u_0 :: u_1 :: u_2 :: u_3 :: (cScr s))) 36 (0, 0))) (o_s : ownScrR s L_s) (h_s : Hh w L_s) (hd_ : (b_s :: L_s.map (·.1)).Nodup) (hf : ScrFine s.dat) (hn : 0 ≤ n ∧ n ≤ 100000) (hsm : smScr 1048576 s.dat) :
    Calls Tryz.prog 111 #[.pointer (some ⟨b_s, 4, none⟩), i64 n] w fun e w' => ∃ r L1, e = .returned (.tuple #[]) ∧ St w (b_s :: L_s.map (·.1)) ([(b_s, Obj.cells (List.toArray (u_0 :: u_1 :: u_2 :: u_3 :: (cScr r))) 36 (0, 0))] ++ L1) w' ∧ ownScrR r L1 ∧ r.dat = rollUpD s.dat n := by
 have hsmB : smScr 549755813888 s.dat := by first | assumption | exact smScr_mono hsm (by decide)
 have hok9 := hf.ok
 obtain ⟨hb1, hb2, hb3, hb4, hb5, hb6⟩ := scrOk_bnd hok9
 obtain ⟨hm, hma⟩ := scrOk_main hok9
 simp only [ScrR.dat, GridR.dat, List.length_map] at hb1 hb2 hb3 hb4 hb5 hb6
 have hgs0 : gridOk (shownD s.dat) = true := hf.shown.1
 have hts0 : 0 ≤ s.Top ∧ s.Top ≤ s.Bot ∧ s.Bot < (shownD s.dat).H := by rw [hf.shown.2.2]; exact ⟨hf.reg.1.1, hf.reg.1.2, hf.reg.2.1⟩
 refine enter 36 Tryz.func111 rfl Tryz.ntmps111 rfl rfl ?_
 have hs1 := St.takeP w b_s _ L_s hb_s h_s hd_
 refine WC.seq (fun K2 hK2 => WC.sr (WL.r 6 hs1 [0] rfl (WL.pA tbk 5 Acts.nil hs1 [0] rfl rfl rfl rfl (fun g_ => ⟨rfl, trivial⟩) (WL.nil ?_))))
 refine WC.cq rfl (fun h3 qh3 => ?_) (fun h3 qh3 => ?_)
 ·have hk : keepD s.dat n = keepRows s.dat (min n (s.Bot + 1)).toNat := by unfold keepD; rw [if_pos (by show s.OnAlt = false ∧ s.Top = 0; have h9 := h3; simpa using h9)]; rfl
  refine WC.region (WL.r 7 hs1 [0] rfl (WL.val rfl rfl rfl (Run.asN ((min n (s.Bot + 1)).toNat) (Run.min rfl rfl rfl) ?_) ?_))
  · omega
  have hF4 := ((hs1.fr L_s).fb b_s)
  refine WL.cl Tryz.call145 rfl (k131_ _ _ _ _ _ s _ _ _ (St.headP hF4) o_s (St.ownP hF4) (St.nodupP hF4) ?_ ?_ ?_ ?_ ?_) ?_
  iterate 5 first | assumption | rfl | omega
  rintro _ whs5 ⟨r6, L7, rfl, hs5, ho8, hd9⟩
  replace hs5 := St.lendP hF4 hs5
  refine ⟨_, rfl, ?_⟩
  have hkr : r6.dat = keepD s.dat n := hd9.trans hk.symm
  have hfr : ScrFine r6.dat := by rw [hkr]; exact hf.keep
  have hsr : smScr 549755813888 r6.dat := by rw [hd9]; exact keepRows_sm hsmB hm (by decide) (by show s.Limit.toNat ≤ _; omega)
  have hgs : gridOk (shownD r6.dat) = true := hfr.shown.1
  have hts : 0 ≤ r6.Top ∧ r6.Top ≤ r6.Bot ∧ r6.Bot < (shownD r6.dat).H := by rw [hfr.shown.2.2]; exact ⟨hfr.reg.1.1, hfr.reg.1.2, hfr.reg.2.1⟩
  have hrT : r6.Top = s.Top := (congrArg ScrD.Top hkr).trans keepD_eqs.2.1
  have hrB : r6.Bot = s.Bot := (congrArg ScrD.Bot hkr).trans keepD_eqs.2.2.1
  refine WL.nil (hK2 _ _ (WC.rH (hs5.d1.rm L7) hs5 (fun _ hs10 => ?_)))
  refine WH.rn [0, 1, 2, 3, 5, 6, 7, 9] (hs10.d1.rm L7) [] rfl rfl (WH.all [4, 8] (by kernel_rfl) rfl (WHs.cons (i := 4) rfl ?_ (WHs.cons (i := 8) rfl ?_ WHs.nil)))
  ·refine WL.r 1 hs10 [0] rfl (WL.nil ⟨(hs10.d1.rm L7), WH.o1 8 rfl (WL.r 1 hs10 [0] rfl (WL.nil ⟨(hs10.d1.rm L7), WH.o1 10 rfl ?_⟩))⟩)
   have hF11 := ((hs10.fr L7).fb b_s)
   refine WL.cl Tryz.call112 rfl (k134_ _ _ _ _ _ r6 _ _ _ _ _ (St.headP hF11) ho8 (St.ownP hF11) (St.nodupP hF11) ?_ ?_ ?_ ?_) ?_
   iterate 4 first | assumption | rfl | omega
   rintro _ whs12 ⟨r13, L14, rfl, hs12, ho15, hd16⟩
   replace hs12 := St.lendP hF11 hs12
   refine ⟨_, rfl, WL.nil ⟨(hs12.d1.rm L14), WH.dn (retK0 rfl (⟨r13, _, rfl, St.keepP (L1 := L14) ((hs12.fr L14).fb b_s), ho15, ?_⟩))⟩⟩
   · refine hd16.trans ?_; unfold rollUpD; first | (rw [hkr, hrT, hrB]; rfl) | (rw [hk]; rfl)
  refine WL.r 1 hs10 [0] rfl (WL.nil ⟨(hs10.d1.rm L7), WH.o1 4 rfl (WL.r 1 hs10 [0] rfl (WL.nil ⟨(hs10.d1.rm L7), WH.o1 10 rfl ?_⟩))⟩)
  have hF17 := ((hs10.fr L7).fb b_s)
  refine WL.cl Tryz.call112 rfl (k134_ _ _ _ _ _ r6 _ _ _ _ _ (St.headP hF17) ho8 (St.ownP hF17) (St.nodupP hF17) ?_ ?_ ?_ ?_) ?_
  iterate 4 first | assumption | rfl | omega
  rintro _ whs18 ⟨r19, L20, rfl, hs18, ho21, hd22⟩
  replace hs18 := St.lendP hF17 hs18
  refine ⟨_, rfl, WL.nil ⟨(hs18.d1.rm L20), WH.dn (retK0 rfl (⟨r19, _, rfl, St.keepP (L1 := L20) ((hs18.fr L20).fb b_s), ho21, ?_⟩))⟩⟩
  · refine hd22.trans ?_; unfold rollUpD; first | (rw [hkr, hrT, hrB]; rfl) | (rw [hk]; rfl)
 have hk : keepD s.dat n = s.dat := by unfold keepD; rw [if_neg (by show ¬ (s.OnAlt = false ∧ s.Top = 0); have h9 := h3; simpa using h9)]
 refine WC.skip (hK2 _ _ (WC.rH (hs1.d1.rm L_s) hs1 (fun _ hs23 => ?_)))
 refine WH.rn [0, 1, 2, 3, 5, 6, 7, 9] (hs23.d1.rm L_s) [] rfl rfl (WH.all [4, 8] (by kernel_rfl) rfl (WHs.cons (i := 4) rfl ?_ (WHs.cons (i := 8) rfl ?_ WHs.nil)))
 ·refine WL.r 1 hs23 [0] rfl (WL.nil ⟨(hs23.d1.rm L_s), WH.o1 8 rfl (WL.r 1 hs23 [0] rfl (WL.nil ⟨(hs23.d1.rm L_s), WH.o1 10 rfl ?_⟩))⟩)
  have hF24 := ((hs23.fr L_s).fb b_s)
  refine WL.cl Tryz.call112 rfl (k134_ _ _ _ _ _ s _ _ _ _ _ (St.headP hF24) o_s (St.ownP hF24) (St.nodupP hF24) ?_ ?_ ?_ ?_) ?_
  iterate 4 first | assumption | rfl | omega
  rintro _ whs25 ⟨r26, L27, rfl, hs25, ho28, hd29⟩
  replace hs25 := St.lendP hF24 hs25
  refine ⟨_, rfl, WL.nil ⟨(hs25.d1.rm L27), WH.dn (retK0 rfl (⟨r26, _, rfl, St.keepP (L1 := L27) ((hs25.fr L27).fb b_s), ho28, ?_⟩))⟩⟩
  · refine hd29.trans ?_; unfold rollUpD; first | (rw [hkr, hrT, hrB]; rfl) | (rw [hk]; rfl)
 refine WL.r 1 hs23 [0] rfl (WL.nil ⟨(hs23.d1.rm L_s), WH.o1 4 rfl (WL.r 1 hs23 [0] rfl (WL.nil ⟨(hs23.d1.rm L_s), WH.o1 10 rfl ?_⟩))⟩)
 have hF30 := ((hs23.fr L_s).fb b_s)
 refine WL.cl Tryz.call112 rfl (k134_ _ _ _ _ _ s _ _ _ _ _ (St.headP hF30) o_s (St.ownP hF30) (St.nodupP hF30) ?_ ?_ ?_ ?_) ?_
 iterate 4 first | assumption | rfl | omega
 rintro _ whs31 ⟨r32, L33, rfl, hs31, ho34, hd35⟩
 replace hs31 := St.lendP hF30 hs31
 refine ⟨_, rfl, WL.nil ⟨(hs31.d1.rm L33), WH.dn (retK0 rfl (⟨r32, _, rfl, St.keepP (L1 := L33) ((hs31.fr L33).fb b_s), ho34, ?_⟩))⟩⟩
 · refine hd35.trans ?_; unfold rollUpD; first | (rw [hkr, hrT, hrB]; rfl) | (rw [hk]; rfl)
theorem k136_ (u_0 u_1 u_2 u_3 : Value) (b_s : Nat) (s : ScrR) (L_s : Hp) (w : World) (hb_s : w.heap[b_s]? = some (Obj.cells (List.toArray (u_0 :: u_1 :: u_2 :: u_3 :: (cScr s))) 36 (0, 0))) (o_s : ownScrR s L_s) (h_s : Hh w L_s) (hd_ : (b_s :: L_s.map (·.1)).Nodup) (hf : ScrFine s.dat) (hsm : smScr 1048576 s.dat) :
    Calls Tryz.prog 73 #[.pointer (some ⟨b_s, 4, none⟩)] w fun e w' => ∃ r L1, e = .returned (.tuple #[]) ∧ St w (b_s :: L_s.map (·.1)) ([(b_s, Obj.cells (List.toArray (u_0 :: u_1 :: u_2 :: u_3 :: (cScr r))) 36 (0, 0))] ++ L1) w' ∧ ownScrR r L1 ∧ r.dat = downD s.dat := by
 have hsmB : smScr 549755813888 s.dat := by first | assumption | exact smScr_mono hsm (by decide)
 have hok9 := hf.ok
 obtain ⟨hb1, hb2, hb3, hb4, hb5, hb6⟩ := scrOk_bnd hok9
 obtain ⟨hm, hma⟩ := scrOk_main hok9
 simp only [ScrR.dat, GridR.dat, List.length_map] at hb1 hb2 hb3 hb4 hb5 hb6
 have hgs0 : gridOk (shownD s.dat) = true := hf.shown.1
 have hts0 : 0 ≤ s.Top ∧ s.Top ≤ s.Bot ∧ s.Bot < (shownD s.dat).H := by rw [hf.shown.2.2]; exact ⟨hf.reg.1.1, hf.reg.1.2, hf.reg.2.1⟩
 refine enter 35 Tryz.func73 rfl Tryz.ntmps73 rfl rfl ?_
 have hs1 := St.takeP w b_s _ L_s hb_s h_s hd_
 refine WC.seq (fun K2 hK2 => WC.block (WC.q1 hs1 [0, 0] rfl (fun _ hs3 => ?_)))
 refine WC.cq rfl (fun h4 qh4 => ?_) (fun h4 qh4 => ?_)
 ·have e1 : s.dat.Y = s.dat.Bot := by show s.Y = s.Bot; have h9 := h4; simpa using h9
  refine WC.region (WL.r 1 hs3 [] rfl ?_)
  have hF5 := ((hs3.fr L_s).fb b_s)
  refine WL.cl Tryz.call111 rfl (k135_ _ _ _ _ _ s _ _ _ (St.headP hF5) o_s (St.ownP hF5) (St.nodupP hF5) ?_ ?_ ?_) ?_
  iterate 3 first | assumption | rfl | omega
  rintro _ whs6 ⟨r7, L8, rfl, hs6, ho9, hd10⟩
  replace hs6 := St.lendP hF5 hs6
  refine ⟨_, rfl, ?_⟩
  have hd3 := hd10
  refine WL.nil (hK2 _ _ (WC.region (WL.r 3 hs6 [] rfl (WL.st tbk hs6 0 rfl rfl (fun _ hs11 => WL.nil (retK0 rfl ?_))))))
  obtain ⟨L12, L13, L14, L15, hs20, ho16, ho17, ho18, ho19⟩ := ownScrR.op hs11 ho9
  have hs21 := (hs20.fb b_s)
  obtain ⟨L23, hs22, ho24⟩ := ownScrR.fl hs21 ho16 ho17 ho18 ho19
  have hs25 := (hs22.fb b_s)
  refine ownScrR.retp4 rfl ((hs25.fr L23).fb b_s) ho24 ?_
  · unfold downD; first | (rw [if_pos e1, ← hd3]; rfl) | (rw [if_neg e1, if_pos e2]; rfl) | (rw [if_neg e1, if_neg e2]; rfl)
 have e1 : ¬ s.dat.Y = s.dat.Bot := by show ¬ s.Y = s.Bot; have h9 := h4; simpa using h9
 refine WC.q1 hs3 [0, 0] rfl (fun _ hs26 => ?_)
 refine WC.cq rfl (fun h27 qh27 => ?_) (fun h27 qh27 => ?_)
 ·have e2 : s.dat.Y < s.dat.H - 1 := by show s.Y < s.H - 1; have h9 := h27; simpa using h9
  refine WC.region (WL.r 7 hs26 [0] rfl (WL.st tbk hs26 0 rfl rfl (fun _ hs28 => WL.nil (hK2 _ _ (WC.region (WL.r 3 hs28 [] rfl (WL.st tbk hs28 0 rfl rfl (fun _ hs29 => ?_))))))))
  refine WL.nil (retK0 rfl ?_)
  obtain ⟨L30, L31, L32, L33, hs38, ho34, ho35, ho36, ho37⟩ := ownScrR.op hs29 o_s
  have hs39 := (hs38.fb b_s)
  obtain ⟨L41, hs40, ho42⟩ := ownScrR.fl hs39 ho34 ho35 ho36 ho37
  have hs43 := (hs40.fb b_s)
  refine ownScrR.retp4 rfl ((hs43.fr L41).fb b_s) ho42 ?_
  · unfold downD; first | (rw [if_pos e1, ← hd3]; rfl) | (rw [if_neg e1, if_pos e2]; rfl) | (rw [if_neg e1, if_neg e2]; rfl)
 have e2 : ¬ s.dat.Y < s.dat.H - 1 := by show ¬ s.Y < s.H - 1; have h9 := h27; simpa using h9
 refine WC.skip (hK2 _ _ (WC.region (WL.r 3 hs26 [] rfl (WL.st tbk hs26 0 rfl rfl (fun _ hs44 => WL.nil (retK0 rfl ?_))))))
 obtain ⟨L45, L46, L47, L48, hs53, ho49, ho50, ho51, ho52⟩ := ownScrR.op hs44 o_s
 have hs54 := (hs53.fb b_s)
 obtain ⟨L56, hs55, ho57⟩ := ownScrR.fl hs54 ho49 ho50 ho51 ho52
 have hs58 := (hs55.fb b_s)
 refine ownScrR.retp4 rfl ((hs58.fr L56).fb b_s) ho57 ?_
 · unfold downD; first | (rw [if_pos e1, ← hd3]; rfl) | (rw [if_neg e1, if_pos e2]; rfl) | (rw [if_neg e1, if_neg e2]; rfl)
theorem k137_ (u_0 u_1 u_2 u_3 : Value) (b_s : Nat) (s : ScrR) (L_s : Hp) (w : World) (hb_s : w.heap[b_s]? = some (Obj.cells (List.toArray (u_0 :: u_1 :: u_2 :: u_3 :: (cScr s))) 36 (0, 0))) (o_s : ownScrR s L_s) (h_s : Hh w L_s) (hd_ : (b_s :: L_s.map (·.1)).Nodup) (hf : ScrFine s.dat) (hsm : smScr 1048576 s.dat) :
    Calls Tryz.prog 79 #[.pointer (some ⟨b_s, 4, none⟩)] w fun e w' => ∃ r L1, e = .returned (.tuple #[]) ∧ St w (b_s :: L_s.map (·.1)) ([(b_s, Obj.cells (List.toArray (u_0 :: u_1 :: u_2 :: u_3 :: (cScr r))) 36 (0, 0))] ++ L1) w' ∧ ownScrR r L1 ∧ r.dat = upD s.dat := by
 have hsmB : smScr 549755813888 s.dat := by first | assumption | exact smScr_mono hsm (by decide)
 have hok9 := hf.ok
 obtain ⟨hb1, hb2, hb3, hb4, hb5, hb6⟩ := scrOk_bnd hok9
 obtain ⟨hm, hma⟩ := scrOk_main hok9
 simp only [ScrR.dat, GridR.dat, List.length_map] at hb1 hb2 hb3 hb4 hb5 hb6
 have hgs0 : gridOk (shownD s.dat) = true := hf.shown.1
 have hts0 : 0 ≤ s.Top ∧ s.Top ≤ s.Bot ∧ s.Bot < (shownD s.dat).H := by rw [hf.shown.2.2]; exact ⟨hf.reg.1.1, hf.reg.1.2, hf.reg.2.1⟩
 refine enter 38 Tryz.func79 rfl Tryz.ntmps79 rfl rfl ?_
 have hs1 := St.takeP w b_s _ L_s hb_s h_s hd_
 refine WC.seq (fun K2 hK2 => WC.block (WC.q1 hs1 [0, 0] rfl (fun _ hs3 => ?_)))
 refine WC.cq rfl (fun h4 qh4 => ?_) (fun h4 qh4 => ?_)
 ·have e1 : s.dat.Y = s.dat.Top := by show s.Y = s.Top; have h9 := h4; simpa using h9
  refine WC.rH (hs3.d1.rm L_s) hs3 (fun _ hs5 => ?_)
  refine WH.rn [0, 1, 2, 3, 5, 6, 7] (hs5.d1.rm L_s) [] rfl rfl (WH.all [4, 8] (by kernel_rfl) rfl (WHs.cons (i := 4) rfl ?_ (WHs.cons (i := 8) rfl ?_ WHs.nil)))
  ·refine WL.r 1 hs5 [0] rfl (WL.nil ⟨(hs5.d1.rm L_s), WH.o1 8 rfl (WL.r 1 hs5 [0] rfl (WL.nil ⟨(hs5.d1.rm L_s), WH.o1 9 rfl ?_⟩))⟩)
   have hF6 := ((hs5.fr L_s).fb b_s)
   refine WL.cl Tryz.call112 rfl (k134_ _ _ _ _ _ s _ _ _ _ _ (St.headP hF6) o_s (St.ownP hF6) (St.nodupP hF6) ?_ ?_ ?_ ?_) ?_
   iterate 4 first | assumption | rfl | omega
   rintro _ whs7 ⟨r8, L9, rfl, hs7, ho10, hd11⟩
   replace hs7 := St.lendP hF6 hs7
   refine ⟨_, rfl, ?_⟩
   have hd3 := hd11
   refine WL.nil ⟨(hs7.d1.rm L9), WH.dn (hK2 _ _ (WC.region (WL.r 3 hs7 [] rfl (WL.st tbk hs7 0 rfl rfl (fun _ hs12 => WL.nil (retK0 rfl ?_))))))⟩
   obtain ⟨L13, L14, L15, L16, hs21, ho17, ho18, ho19, ho20⟩ := ownScrR.op hs12 ho10
   have hs22 := (hs21.fb b_s)
   obtain ⟨L24, hs23, ho25⟩ := ownScrR.fl hs22 ho17 ho18 ho19 ho20
   have hs26 := (hs23.fb b_s)
   refine ownScrR.retp4 rfl ((hs26.fr L24).fb b_s) ho25 ?_
   · unfold upD; first | (rw [if_pos e1]; show _ = wrapD (rollD s.dat s.Top s.Bot (-1)) false; refine Eq.trans ?_ (congrArg (fun d => wrapD d false) hd3); rfl) | (rw [if_neg e1, if_pos e2]; rfl) | (rw [if_neg e1, if_neg e2]; rfl)
  refine WL.r 1 hs5 [0] rfl (WL.nil ⟨(hs5.d1.rm L_s), WH.o1 4 rfl (WL.r 1 hs5 [0] rfl (WL.nil ⟨(hs5.d1.rm L_s), WH.o1 9 rfl ?_⟩))⟩)
  have hF27 := ((hs5.fr L_s).fb b_s)
  refine WL.cl Tryz.call112 rfl (k134_ _ _ _ _ _ s _ _ _ _ _ (St.headP hF27) o_s (St.ownP hF27) (St.nodupP hF27) ?_ ?_ ?_ ?_) ?_
  iterate 4 first | assumption | rfl | omega
  rintro _ whs28 ⟨r29, L30, rfl, hs28, ho31, hd32⟩
  replace hs28 := St.lendP hF27 hs28
  refine ⟨_, rfl, ?_⟩
  have hd3 := hd32
  refine WL.nil ⟨(hs28.d1.rm L30), WH.dn (hK2 _ _ (WC.region (WL.r 3 hs28 [] rfl (WL.st tbk hs28 0 rfl rfl (fun _ hs33 => WL.nil (retK0 rfl ?_))))))⟩
  obtain ⟨L34, L35, L36, L37, hs42, ho38, ho39, ho40, ho41⟩ := ownScrR.op hs33 ho31
  have hs43 := (hs42.fb b_s)
  obtain ⟨L45, hs44, ho46⟩ := ownScrR.fl hs43 ho38 ho39 ho40 ho41
  have hs47 := (hs44.fb b_s)
  refine ownScrR.retp4 rfl ((hs47.fr L45).fb b_s) ho46 ?_
  · unfold upD; first | (rw [if_pos e1]; show _ = wrapD (rollD s.dat s.Top s.Bot (-1)) false; refine Eq.trans ?_ (congrArg (fun d => wrapD d false) hd3); rfl) | (rw [if_neg e1, if_pos e2]; rfl) | (rw [if_neg e1, if_neg e2]; rfl)
 have e1 : ¬ s.dat.Y = s.dat.Top := by show ¬ s.Y = s.Top; have h9 := h4; simpa using h9
 refine WC.r1 hs3 [0] rfl (WC.cq rfl (fun h48 qh48 => ?_) (fun h48 qh48 => ?_))
 ·have e2 : s.dat.Y > 0 := by show s.Y > 0; have h9 := h48; simpa using h9
  refine WC.region (WL.r 7 hs3 [0] rfl (WL.st tbk hs3 0 rfl rfl (fun _ hs49 => WL.nil (hK2 _ _ (WC.region (WL.r 3 hs49 [] rfl (WL.st tbk hs49 0 rfl rfl (fun _ hs50 => ?_))))))))
  refine WL.nil (retK0 rfl ?_)
  obtain ⟨L51, L52, L53, L54, hs59, ho55, ho56, ho57, ho58⟩ := ownScrR.op hs50 o_s
  have hs60 := (hs59.fb b_s)
  obtain ⟨L62, hs61, ho63⟩ := ownScrR.fl hs60 ho55 ho56 ho57 ho58
  have hs64 := (hs61.fb b_s)
  refine ownScrR.retp4 rfl ((hs64.fr L62).fb b_s) ho63 ?_
  · unfold upD; first | (rw [if_pos e1]; show _ = wrapD (rollD s.dat s.Top s.Bot (-1)) false; refine Eq.trans ?_ (congrArg (fun d => wrapD d false) hd3); rfl) | (rw [if_neg e1, if_pos e2]; rfl) | (rw [if_neg e1, if_neg e2]; rfl)
 have e2 : ¬ s.dat.Y > 0 := by show ¬ s.Y > 0; have h9 := h48; simpa using h9
 refine WC.skip (hK2 _ _ (WC.region (WL.r 3 hs3 [] rfl (WL.st tbk hs3 0 rfl rfl (fun _ hs65 => WL.nil (retK0 rfl ?_))))))
 obtain ⟨L66, L67, L68, L69, hs74, ho70, ho71, ho72, ho73⟩ := ownScrR.op hs65 o_s
 have hs75 := (hs74.fb b_s)
 obtain ⟨L77, hs76, ho78⟩ := ownScrR.fl hs75 ho70 ho71 ho72 ho73
 have hs79 := (hs76.fb b_s)
 refine ownScrR.retp4 rfl ((hs79.fr L77).fb b_s) ho78 ?_
 · unfold upD; first | (rw [if_pos e1]; show _ = wrapD (rollD s.dat s.Top s.Bot (-1)) false; refine Eq.trans ?_ (congrArg (fun d => wrapD d false) hd3); rfl) | (rw [if_neg e1, if_pos e2]; rfl) | (rw [if_neg e1, if_neg e2]; rfl)
theorem k138_ (u_0 u_1 u_2 u_3 : Value) (b_s : Nat) (s : ScrR) (L_s : Hp) (w : World) (hb_s : w.heap[b_s]? = some (Obj.cells (List.toArray (u_0 :: u_1 :: u_2 :: u_3 :: (cScr s))) 36 (0, 0))) (o_s : ownScrR s L_s) (h_s : Hh w L_s) (hd_ : (b_s :: L_s.map (·.1)).Nodup) (hsm : smScr 549755813888 s.dat) :
    Calls Tryz.prog 80 #[.pointer (some ⟨b_s, 4, none⟩)] w fun e w' => ∃ r L1, e = .returned (.tuple #[]) ∧ St w (b_s :: L_s.map (·.1)) ([(b_s, Obj.cells (List.toArray (u_0 :: u_1 :: u_2 :: u_3 :: (cScr r))) 36 (0, 0))] ++ L1) w' ∧ ownScrR r L1 ∧ r.dat = saveD s.dat := by
 refine enter 23 Tryz.func80 rfl Tryz.ntmps80 rfl rfl ?_
 have hs1 := St.takeP w b_s _ L_s hb_s h_s hd_
 refine WC.rH hs1.d1 hs1 (fun _ hs2 => ?_)
 refine WH.rn [0, 1, 2, 3, 4, 5, 7, 8, 9, 11, 12, 13] hs2.d1 [] rfl rfl (WH.all [6, 10, 14] (by kernel_rfl) rfl (WHs.cons (i := 6) rfl ?_ (WHs.cons (i := 10) rfl ?_ (WHs.cons (i := 14) rfl ?_ WHs.nil))))
 ·refine WL.r 1 hs2 [0] rfl (WL.nil ⟨hs2.d1, WH.all [10, 14] (by kernel_rfl) rfl (WHs.cons (i := 10) rfl ?_ (WHs.cons (i := 14) rfl ?_ WHs.nil))⟩)
  ·refine WL.r 1 hs2 [0] rfl (WL.nil ⟨hs2.d1, WH.o1 14 rfl (WL.r 1 hs2 [0] rfl (WL.nil ⟨hs2.d1, WH.rn [15, 16] hs2.d1 [] rfl rfl (WH.o1 17 rfl (WL.st tbk hs2 0 rfl rfl (fun _ hs3 => ?_)))⟩))⟩)
   refine WL.nil ⟨hs3.d1, WH.rn [18, 19] hs3.d1 [] rfl rfl (WH.o1 20 rfl (WL.st tbk hs3 0 rfl rfl (fun _ hs4 => WL.nil ⟨hs4.d1, WH.rn [21, 22] hs4.d1 [] rfl rfl (WH.o1 23 rfl (WL.st tbk hs4 0 rfl rfl (fun _ hs5 => ?_)))⟩)))⟩
   refine WL.nil ⟨hs5.d1, WH.dn (retK0 rfl ?_)⟩
   obtain ⟨L6, L7, L8, L9, hs14, ho10, ho11, ho12, ho13⟩ := ownScrR.op hs5 o_s
   have hs15 := (hs14.fb b_s)
   obtain ⟨L17, hs16, ho18⟩ := ownScrR.fl hs15 ho10 ho11 ho12 ho13
   have hs19 := (hs16.fb b_s)
   refine ownScrR.retp4 rfl ((hs19.fr L17).fb b_s) ho18 ?_
   · rfl
  refine WL.r 1 hs2 [0] rfl (WL.nil ⟨hs2.d1, WH.o1 10 rfl (WL.r 1 hs2 [0] rfl (WL.nil ⟨hs2.d1, WH.rn [15, 16] hs2.d1 [] rfl rfl (WH.o1 17 rfl (WL.st tbk hs2 0 rfl rfl (fun _ hs20 => ?_)))⟩))⟩)
  refine WL.nil ⟨hs20.d1, WH.rn [18, 19] hs20.d1 [] rfl rfl (WH.o1 20 rfl (WL.st tbk hs20 0 rfl rfl (fun _ hs21 => WL.nil ⟨hs21.d1, WH.rn [21, 22] hs21.d1 [] rfl rfl (WH.o1 23 rfl (WL.st tbk hs21 0 rfl rfl (fun _ hs22 => ?_)))⟩)))⟩
  refine WL.nil ⟨hs22.d1, WH.dn (retK0 rfl ?_)⟩
  obtain ⟨L23, L24, L25, L26, hs31, ho27, ho28, ho29, ho30⟩ := ownScrR.op hs22 o_s
  have hs32 := (hs31.fb b_s)
  obtain ⟨L34, hs33, ho35⟩ := ownScrR.fl hs32 ho27 ho28 ho29 ho30
  have hs36 := (hs33.fb b_s)
  refine ownScrR.retp4 rfl ((hs36.fr L34).fb b_s) ho35 ?_
  · rfl
 ·refine WL.r 1 hs2 [0] rfl (WL.nil ⟨hs2.d1, WH.all [6, 14] (by kernel_rfl) rfl (WHs.cons (i := 6) rfl ?_ (WHs.cons (i := 14) rfl ?_ WHs.nil))⟩)
  ·refine WL.r 1 hs2 [0] rfl (WL.nil ⟨hs2.d1, WH.o1 14 rfl (WL.r 1 hs2 [0] rfl (WL.nil ⟨hs2.d1, WH.rn [15, 16] hs2.d1 [] rfl rfl (WH.o1 17 rfl (WL.st tbk hs2 0 rfl rfl (fun _ hs37 => ?_)))⟩))⟩)
   refine WL.nil ⟨hs37.d1, WH.rn [18, 19] hs37.d1 [] rfl rfl (WH.o1 20 rfl (WL.st tbk hs37 0 rfl rfl (fun _ hs38 => WL.nil ⟨hs38.d1, WH.rn [21, 22] hs38.d1 [] rfl rfl (WH.o1 23 rfl (WL.st tbk hs38 0 rfl rfl (fun _ hs39 => ?_)))⟩)))⟩
   refine WL.nil ⟨hs39.d1, WH.dn (retK0 rfl ?_)⟩
   obtain ⟨L40, L41, L42, L43, hs48, ho44, ho45, ho46, ho47⟩ := ownScrR.op hs39 o_s
   have hs49 := (hs48.fb b_s)
   obtain ⟨L51, hs50, ho52⟩ := ownScrR.fl hs49 ho44 ho45 ho46 ho47
   have hs53 := (hs50.fb b_s)
   refine ownScrR.retp4 rfl ((hs53.fr L51).fb b_s) ho52 ?_
   · rfl
  refine WL.r 1 hs2 [0] rfl (WL.nil ⟨hs2.d1, WH.o1 6 rfl (WL.r 1 hs2 [0] rfl (WL.nil ⟨hs2.d1, WH.rn [15, 16] hs2.d1 [] rfl rfl (WH.o1 17 rfl (WL.st tbk hs2 0 rfl rfl (fun _ hs54 => ?_)))⟩))⟩)
  refine WL.nil ⟨hs54.d1, WH.rn [18, 19] hs54.d1 [] rfl rfl (WH.o1 20 rfl (WL.st tbk hs54 0 rfl rfl (fun _ hs55 => WL.nil ⟨hs55.d1, WH.rn [21, 22] hs55.d1 [] rfl rfl (WH.o1 23 rfl (WL.st tbk hs55 0 rfl rfl (fun _ hs56 => ?_)))⟩)))⟩
  refine WL.nil ⟨hs56.d1, WH.dn (retK0 rfl ?_)⟩
  obtain ⟨L57, L58, L59, L60, hs65, ho61, ho62, ho63, ho64⟩ := ownScrR.op hs56 o_s
  have hs66 := (hs65.fb b_s)
  obtain ⟨L68, hs67, ho69⟩ := ownScrR.fl hs66 ho61 ho62 ho63 ho64
  have hs70 := (hs67.fb b_s)
  refine ownScrR.retp4 rfl ((hs70.fr L68).fb b_s) ho69 ?_
  · rfl
 refine WL.r 1 hs2 [0] rfl (WL.nil ⟨hs2.d1, WH.all [6, 10] (by kernel_rfl) rfl (WHs.cons (i := 6) rfl ?_ (WHs.cons (i := 10) rfl ?_ WHs.nil))⟩)
 ·refine WL.r 1 hs2 [0] rfl (WL.nil ⟨hs2.d1, WH.o1 10 rfl (WL.r 1 hs2 [0] rfl (WL.nil ⟨hs2.d1, WH.rn [15, 16] hs2.d1 [] rfl rfl (WH.o1 17 rfl (WL.st tbk hs2 0 rfl rfl (fun _ hs71 => ?_)))⟩))⟩)
  refine WL.nil ⟨hs71.d1, WH.rn [18, 19] hs71.d1 [] rfl rfl (WH.o1 20 rfl (WL.st tbk hs71 0 rfl rfl (fun _ hs72 => WL.nil ⟨hs72.d1, WH.rn [21, 22] hs72.d1 [] rfl rfl (WH.o1 23 rfl (WL.st tbk hs72 0 rfl rfl (fun _ hs73 => ?_)))⟩)))⟩
  refine WL.nil ⟨hs73.d1, WH.dn (retK0 rfl ?_)⟩
  obtain ⟨L74, L75, L76, L77, hs82, ho78, ho79, ho80, ho81⟩ := ownScrR.op hs73 o_s
  have hs83 := (hs82.fb b_s)
  obtain ⟨L85, hs84, ho86⟩ := ownScrR.fl hs83 ho78 ho79 ho80 ho81
  have hs87 := (hs84.fb b_s)
  refine ownScrR.retp4 rfl ((hs87.fr L85).fb b_s) ho86 ?_
  · rfl
 refine WL.r 1 hs2 [0] rfl (WL.nil ⟨hs2.d1, WH.o1 6 rfl (WL.r 1 hs2 [0] rfl (WL.nil ⟨hs2.d1, WH.rn [15, 16] hs2.d1 [] rfl rfl (WH.o1 17 rfl (WL.st tbk hs2 0 rfl rfl (fun _ hs88 => ?_)))⟩))⟩)
 refine WL.nil ⟨hs88.d1, WH.rn [18, 19] hs88.d1 [] rfl rfl (WH.o1 20 rfl (WL.st tbk hs88 0 rfl rfl (fun _ hs89 => WL.nil ⟨hs89.d1, WH.rn [21, 22] hs89.d1 [] rfl rfl (WH.o1 23 rfl (WL.st tbk hs89 0 rfl rfl (fun _ hs90 => ?_)))⟩)))⟩
 refine WL.nil ⟨hs90.d1, WH.dn (retK0 rfl ?_)⟩
 obtain ⟨L91, L92, L93, L94, hs99, ho95, ho96, ho97, ho98⟩ := ownScrR.op hs90 o_s
 have hs100 := (hs99.fb b_s)
 obtain ⟨L102, hs101, ho103⟩ := ownScrR.fl hs100 ho95 ho96 ho97 ho98
 have hs104 := (hs101.fb b_s)
 refine ownScrR.retp4 rfl ((hs104.fr L102).fb b_s) ho103 ?_
 · rfl
theorem k139_ (u_0 u_1 u_2 u_3 : Value) (b_s : Nat) (s : ScrR) (L_s : Hp) (w : World) (hb_s : w.heap[b_s]? = some (Obj.cells (List.toArray (u_0 :: u_1 :: u_2 :: u_3 :: (cScr s))) 36 (0, 0))) (o_s : ownScrR s L_s) (h_s : Hh w L_s) (hd_ : (b_s :: L_s.map (·.1)).Nodup) (hsm : smScr 549755813888 s.dat) :
    Calls Tryz.prog 81 #[.pointer (some ⟨b_s, 4, none⟩)] w fun e w' => ∃ r L1, e = .returned (.tuple #[]) ∧ St w (b_s :: L_s.map (·.1)) ([(b_s, Obj.cells (List.toArray (u_0 :: u_1 :: u_2 :: u_3 :: (cScr r))) 36 (0, 0))] ++ L1) w' ∧ ownScrR r L1 ∧ r.dat = backD s.dat := by
 refine enter 26 Tryz.func81 rfl Tryz.ntmps81 rfl rfl ?_
 have hs1 := St.takeP w b_s _ L_s hb_s h_s hd_
 refine WC.rH hs1.d1 hs1 (fun _ hs2 => ?_)
 refine WH.rn [0, 1, 2, 3, 4, 5, 6, 8, 9, 10, 12, 13, 14] hs2.d1 [] rfl rfl (WH.all [7, 11, 15] (by kernel_rfl) rfl (WHs.cons (i := 7) rfl ?_ (WHs.cons (i := 11) rfl ?_ (WHs.cons (i := 15) rfl ?_ WHs.nil))))
 ·refine WL.r 1 hs2 [0] rfl (WL.nil ⟨hs2.d1, WH.all [11, 15] (by kernel_rfl) rfl (WHs.cons (i := 11) rfl ?_ (WHs.cons (i := 15) rfl ?_ WHs.nil))⟩)
  ·refine WL.r 1 hs2 [0] rfl (WL.nil ⟨hs2.d1, WH.o1 15 rfl (WL.r 1 hs2 [0] rfl (WL.nil ⟨hs2.d1, WH.rn [16, 17] hs2.d1 [] rfl rfl (WH.o1 18 rfl (WL.st tbk hs2 0 rfl rfl (fun _ hs3 => ?_)))⟩))⟩)
   refine WL.nil ⟨hs3.d1, WH.rn [19, 20] hs3.d1 [] rfl rfl (WH.o1 21 rfl (WL.st tbk hs3 0 rfl rfl (fun _ hs4 => WL.nil ⟨hs4.d1, WH.rn [22, 23] hs4.d1 [] rfl rfl (WH.o1 24 rfl (WL.st tbk hs4 0 rfl rfl (fun _ hs5 => ?_)))⟩)))⟩
   refine WL.nil ⟨hs5.d1, WH.rn [25, 26] hs5.d1 [] rfl rfl (WH.o1 27 rfl (WL.st tbk hs5 0 rfl rfl (fun _ hs6 => WL.nil ⟨hs6.d1, WH.dn (retK0 rfl ?_)⟩)))⟩
   obtain ⟨L7, L8, L9, L10, hs15, ho11, ho12, ho13, ho14⟩ := ownScrR.op hs6 o_s
   have hs16 := (hs15.fb b_s)
   obtain ⟨L18, hs17, ho19⟩ := ownScrR.fl hs16 ho11 ho12 ho13 ho14
   have hs20 := (hs17.fb b_s)
   refine ownScrR.retp4 rfl ((hs20.fr L18).fb b_s) ho19 ?_
   · rfl
  refine WL.r 1 hs2 [0] rfl (WL.nil ⟨hs2.d1, WH.o1 11 rfl (WL.r 1 hs2 [0] rfl (WL.nil ⟨hs2.d1, WH.rn [16, 17] hs2.d1 [] rfl rfl (WH.o1 18 rfl (WL.st tbk hs2 0 rfl rfl (fun _ hs21 => ?_)))⟩))⟩)
  refine WL.nil ⟨hs21.d1, WH.rn [19, 20] hs21.d1 [] rfl rfl (WH.o1 21 rfl (WL.st tbk hs21 0 rfl rfl (fun _ hs22 => WL.nil ⟨hs22.d1, WH.rn [22, 23] hs22.d1 [] rfl rfl (WH.o1 24 rfl (WL.st tbk hs22 0 rfl rfl (fun _ hs23 => ?_)))⟩)))⟩
  refine WL.nil ⟨hs23.d1, WH.rn [25, 26] hs23.d1 [] rfl rfl (WH.o1 27 rfl (WL.st tbk hs23 0 rfl rfl (fun _ hs24 => WL.nil ⟨hs24.d1, WH.dn (retK0 rfl ?_)⟩)))⟩
  obtain ⟨L25, L26, L27, L28, hs33, ho29, ho30, ho31, ho32⟩ := ownScrR.op hs24 o_s
  have hs34 := (hs33.fb b_s)
  obtain ⟨L36, hs35, ho37⟩ := ownScrR.fl hs34 ho29 ho30 ho31 ho32
  have hs38 := (hs35.fb b_s)
  refine ownScrR.retp4 rfl ((hs38.fr L36).fb b_s) ho37 ?_
  · rfl
 ·refine WL.r 1 hs2 [0] rfl (WL.nil ⟨hs2.d1, WH.all [7, 15] (by kernel_rfl) rfl (WHs.cons (i := 7) rfl ?_ (WHs.cons (i := 15) rfl ?_ WHs.nil))⟩)
  ·refine WL.r 1 hs2 [0] rfl (WL.nil ⟨hs2.d1, WH.o1 15 rfl (WL.r 1 hs2 [0] rfl (WL.nil ⟨hs2.d1, WH.rn [16, 17] hs2.d1 [] rfl rfl (WH.o1 18 rfl (WL.st tbk hs2 0 rfl rfl (fun _ hs39 => ?_)))⟩))⟩)
   refine WL.nil ⟨hs39.d1, WH.rn [19, 20] hs39.d1 [] rfl rfl (WH.o1 21 rfl (WL.st tbk hs39 0 rfl rfl (fun _ hs40 => WL.nil ⟨hs40.d1, WH.rn [22, 23] hs40.d1 [] rfl rfl (WH.o1 24 rfl (WL.st tbk hs40 0 rfl rfl (fun _ hs41 => ?_)))⟩)))⟩
   refine WL.nil ⟨hs41.d1, WH.rn [25, 26] hs41.d1 [] rfl rfl (WH.o1 27 rfl (WL.st tbk hs41 0 rfl rfl (fun _ hs42 => WL.nil ⟨hs42.d1, WH.dn (retK0 rfl ?_)⟩)))⟩
   obtain ⟨L43, L44, L45, L46, hs51, ho47, ho48, ho49, ho50⟩ := ownScrR.op hs42 o_s
   have hs52 := (hs51.fb b_s)
   obtain ⟨L54, hs53, ho55⟩ := ownScrR.fl hs52 ho47 ho48 ho49 ho50
   have hs56 := (hs53.fb b_s)
   refine ownScrR.retp4 rfl ((hs56.fr L54).fb b_s) ho55 ?_
   · rfl
  refine WL.r 1 hs2 [0] rfl (WL.nil ⟨hs2.d1, WH.o1 7 rfl (WL.r 1 hs2 [0] rfl (WL.nil ⟨hs2.d1, WH.rn [16, 17] hs2.d1 [] rfl rfl (WH.o1 18 rfl (WL.st tbk hs2 0 rfl rfl (fun _ hs57 => ?_)))⟩))⟩)
  refine WL.nil ⟨hs57.d1, WH.rn [19, 20] hs57.d1 [] rfl rfl (WH.o1 21 rfl (WL.st tbk hs57 0 rfl rfl (fun _ hs58 => WL.nil ⟨hs58.d1, WH.rn [22, 23] hs58.d1 [] rfl rfl (WH.o1 24 rfl (WL.st tbk hs58 0 rfl rfl (fun _ hs59 => ?_)))⟩)))⟩
  refine WL.nil ⟨hs59.d1, WH.rn [25, 26] hs59.d1 [] rfl rfl (WH.o1 27 rfl (WL.st tbk hs59 0 rfl rfl (fun _ hs60 => WL.nil ⟨hs60.d1, WH.dn (retK0 rfl ?_)⟩)))⟩
  obtain ⟨L61, L62, L63, L64, hs69, ho65, ho66, ho67, ho68⟩ := ownScrR.op hs60 o_s
  have hs70 := (hs69.fb b_s)
  obtain ⟨L72, hs71, ho73⟩ := ownScrR.fl hs70 ho65 ho66 ho67 ho68
  have hs74 := (hs71.fb b_s)
  refine ownScrR.retp4 rfl ((hs74.fr L72).fb b_s) ho73 ?_
  · rfl
 refine WL.r 1 hs2 [0] rfl (WL.nil ⟨hs2.d1, WH.all [7, 11] (by kernel_rfl) rfl (WHs.cons (i := 7) rfl ?_ (WHs.cons (i := 11) rfl ?_ WHs.nil))⟩)
 ·refine WL.r 1 hs2 [0] rfl (WL.nil ⟨hs2.d1, WH.o1 11 rfl (WL.r 1 hs2 [0] rfl (WL.nil ⟨hs2.d1, WH.rn [16, 17] hs2.d1 [] rfl rfl (WH.o1 18 rfl (WL.st tbk hs2 0 rfl rfl (fun _ hs75 => ?_)))⟩))⟩)
  refine WL.nil ⟨hs75.d1, WH.rn [19, 20] hs75.d1 [] rfl rfl (WH.o1 21 rfl (WL.st tbk hs75 0 rfl rfl (fun _ hs76 => WL.nil ⟨hs76.d1, WH.rn [22, 23] hs76.d1 [] rfl rfl (WH.o1 24 rfl (WL.st tbk hs76 0 rfl rfl (fun _ hs77 => ?_)))⟩)))⟩
  refine WL.nil ⟨hs77.d1, WH.rn [25, 26] hs77.d1 [] rfl rfl (WH.o1 27 rfl (WL.st tbk hs77 0 rfl rfl (fun _ hs78 => WL.nil ⟨hs78.d1, WH.dn (retK0 rfl ?_)⟩)))⟩
  obtain ⟨L79, L80, L81, L82, hs87, ho83, ho84, ho85, ho86⟩ := ownScrR.op hs78 o_s
  have hs88 := (hs87.fb b_s)
  obtain ⟨L90, hs89, ho91⟩ := ownScrR.fl hs88 ho83 ho84 ho85 ho86
  have hs92 := (hs89.fb b_s)
  refine ownScrR.retp4 rfl ((hs92.fr L90).fb b_s) ho91 ?_
  · rfl
 refine WL.r 1 hs2 [0] rfl (WL.nil ⟨hs2.d1, WH.o1 7 rfl (WL.r 1 hs2 [0] rfl (WL.nil ⟨hs2.d1, WH.rn [16, 17] hs2.d1 [] rfl rfl (WH.o1 18 rfl (WL.st tbk hs2 0 rfl rfl (fun _ hs93 => ?_)))⟩))⟩)
 refine WL.nil ⟨hs93.d1, WH.rn [19, 20] hs93.d1 [] rfl rfl (WH.o1 21 rfl (WL.st tbk hs93 0 rfl rfl (fun _ hs94 => WL.nil ⟨hs94.d1, WH.rn [22, 23] hs94.d1 [] rfl rfl (WH.o1 24 rfl (WL.st tbk hs94 0 rfl rfl (fun _ hs95 => ?_)))⟩)))⟩
 refine WL.nil ⟨hs95.d1, WH.rn [25, 26] hs95.d1 [] rfl rfl (WH.o1 27 rfl (WL.st tbk hs95 0 rfl rfl (fun _ hs96 => WL.nil ⟨hs96.d1, WH.dn (retK0 rfl ?_)⟩)))⟩
 obtain ⟨L97, L98, L99, L100, hs105, ho101, ho102, ho103, ho104⟩ := ownScrR.op hs96 o_s
 have hs106 := (hs105.fb b_s)
 obtain ⟨L108, hs107, ho109⟩ := ownScrR.fl hs106 ho101 ho102 ho103 ho104
 have hs110 := (hs107.fb b_s)
 refine ownScrR.retp4 rfl ((hs110.fr L108).fb b_s) ho109 ?_
 · rfl
theorem k140_ (u_0 u_1 u_2 u_3 : Value) (b_s : Nat) (s : ScrR) (L_s : Hp) (b : Int) (w : World) (hb_s : w.heap[b_s]? = some (Obj.cells (List.toArray (u_0 :: u_1 :: u_2 :: u_3 :: (cScr s))) 36 (0, 0))) (o_s : ownScrR s L_s) (h_s : Hh w L_s) (hd_ : (b_s :: L_s.map (·.1)).Nodup) (hf : ScrFine s.dat) (hsm : smScr 1048576 s.dat) :
    Calls Tryz.prog 40 #[.pointer (some ⟨b_s, 4, none⟩), i64 b] w fun e w' => ∃ r L1, e = .returned (.tuple #[]) ∧ St w (b_s :: L_s.map (·.1)) ([(b_s, Obj.cells (List.toArray (u_0 :: u_1 :: u_2 :: u_3 :: (cScr r))) 36 (0, 0))] ++ L1) w' ∧ ownScrR r L1 ∧ r.dat = escD s.dat b := by
 have hsmB : smScr 549755813888 s.dat := by first | assumption | exact smScr_mono hsm (by decide)
 have hok9 := hf.ok
 obtain ⟨hb1, hb2, hb3, hb4, hb5, hb6⟩ := scrOk_bnd hok9
 obtain ⟨hm, hma⟩ := scrOk_main hok9
 simp only [ScrR.dat, GridR.dat, List.length_map] at hb1 hb2 hb3 hb4 hb5 hb6
 obtain ⟨_, _, hTl, _⟩ := ownScrR.len o_s
 have hTs : s.Tabs.xs.length ≤ 1048576 := hsm.2.2.1
 refine enter 89 Tryz.func40 rfl Tryz.ntmps40 rfl rfl ?_
 have hs1 := St.takeP w b_s _ L_s hb_s h_s hd_
 refine WC.r1 hs1 [] rfl (WC.block (WC.r1 hs1 [] rfl (WC.cq rfl (fun h2 qh2 => ?_) (fun h2 qh2 => ?_))))
 ·have e68 : b = 68 := by have h9 := h2; simpa using h9
  refine WC.region (WL.r 1 hs1 [] rfl ?_)
  have hF3 := ((hs1.fr L_s).fb b_s)
  refine WL.cl Tryz.call73 rfl (k136_ _ _ _ _ _ s _ _ (St.headP hF3) o_s (St.ownP hF3) (St.nodupP hF3) ?_ ?_) ?_
  iterate 2 first | assumption | rfl | omega | exact lowb_le
  rintro _ whs4 ⟨r5, L6, rfl, hs4, ho7, hd8⟩
  replace hs4 := St.lendP hF3 hs4
  refine ⟨_, rfl, WL.nil (ibN (retK0 rfl (⟨r5, _, rfl, St.keepP (L1 := L6) ((hs4.fr L6).fb b_s), ho7, ?_⟩)))⟩
  · unfold escD; rw [if_pos e68]; exact hd8
 have e68 : ¬ b = 68 := by have h9 := h2; simpa using h9
 refine WC.r1 hs1 [] rfl (WC.cq rfl (fun h9 qh9 => ?_) (fun h9 qh9 => ?_))
 ·have e77 : b = 77 := by have h9 := h9; simpa using h9
  refine WC.region (WL.r 1 hs1 [] rfl ?_)
  have hF10 := ((hs1.fr L_s).fb b_s)
  refine WL.cl Tryz.call79 rfl (k137_ _ _ _ _ _ s _ _ (St.headP hF10) o_s (St.ownP hF10) (St.nodupP hF10) ?_ ?_) ?_
  iterate 2 first | assumption | rfl | omega | exact lowb_le
  rintro _ whs11 ⟨r12, L13, rfl, hs11, ho14, hd15⟩
  replace hs11 := St.lendP hF10 hs11
  refine ⟨_, rfl, WL.nil (ibN (retK0 rfl (⟨r12, _, rfl, St.keepP (L1 := L13) ((hs11.fr L13).fb b_s), ho14, ?_⟩)))⟩
  · unfold escD; rw [if_neg e68, if_pos e77]; exact hd15
 have e77 : ¬ b = 77 := by have h9 := h9; simpa using h9
 refine WC.r1 hs1 [] rfl (WC.cq rfl (fun h16 qh16 => ?_) (fun h16 qh16 => ?_))
 ·have e69 : b = 69 := by have h9 := h16; simpa using h9
  refine WC.sr (WL.r 1 hs1 [] rfl ?_)
  have hF17 := ((hs1.fr L_s).fb b_s)
  refine WL.cl Tryz.call73 rfl (k136_ _ _ _ _ _ s _ _ (St.headP hF17) o_s (St.ownP hF17) (St.nodupP hF17) ?_ ?_) ?_
  iterate 2 first | assumption | rfl | omega | exact lowb_le
  rintro _ whs18 ⟨r19, L20, rfl, hs18, ho21, hd22⟩
  replace hs18 := St.lendP hF17 hs18
  refine ⟨_, rfl, WL.nil (WC.region (WL.r 3 hs18 [] rfl (WL.st tbk hs18 0 rfl rfl (fun _ hs23 => WL.nil (ibN (retK0 rfl ?_))))))⟩
  obtain ⟨L24, L25, L26, L27, hs32, ho28, ho29, ho30, ho31⟩ := ownScrR.op hs23 ho21
  have hs33 := (hs32.fb b_s)
  obtain ⟨L35, hs34, ho36⟩ := ownScrR.fl hs33 ho28 ho29 ho30 ho31
  have hs37 := (hs34.fb b_s)
  refine ownScrR.retp4 rfl ((hs37.fr L35).fb b_s) ho36 ?_
  · unfold escD; rw [if_neg e68, if_neg e77, if_pos e69]; show _ = ({ downD s.dat with X := 0 } : ScrD); rw [← hd22]; rfl
 have e69 : ¬ b = 69 := by have h9 := h16; simpa using h9
 refine WC.r1 hs1 [] rfl (WC.cq rfl (fun h38 qh38 => ?_) (fun h38 qh38 => ?_))
 ·have e55 : b = 55 := by have h9 := h38; simpa using h9
  refine WC.region (WL.r 1 hs1 [] rfl ?_)
  have hF39 := ((hs1.fr L_s).fb b_s)
  refine WL.cl Tryz.call80 rfl (k138_ _ _ _ _ _ s _ _ (St.headP hF39) o_s (St.ownP hF39) (St.nodupP hF39) ?_) ?_
  · first | assumption | rfl | omega | exact lowb_le
  rintro _ whs40 ⟨r41, L42, rfl, hs40, ho43, hd44⟩
  replace hs40 := St.lendP hF39 hs40
  refine ⟨_, rfl, WL.nil (ibN (retK0 rfl (⟨r41, _, rfl, St.keepP (L1 := L42) ((hs40.fr L42).fb b_s), ho43, ?_⟩)))⟩
  · unfold escD; rw [if_neg e68, if_neg e77, if_neg e69, if_pos e55]; exact hd44
 have e55 : ¬ b = 55 := by have h9 := h38; simpa using h9
 refine WC.r1 hs1 [] rfl (WC.cq rfl (fun h45 qh45 => ?_) (fun h45 qh45 => ?_))
 ·have e56 : b = 56 := by have h9 := h45; simpa using h9
  refine WC.region (WL.r 1 hs1 [] rfl ?_)
  have hF46 := ((hs1.fr L_s).fb b_s)
  refine WL.cl Tryz.call81 rfl (k139_ _ _ _ _ _ s _ _ (St.headP hF46) o_s (St.ownP hF46) (St.nodupP hF46) ?_) ?_
  · first | assumption | rfl | omega | exact lowb_le
  rintro _ whs47 ⟨r48, L49, rfl, hs47, ho50, hd51⟩
  replace hs47 := St.lendP hF46 hs47
  refine ⟨_, rfl, WL.nil (ibN (retK0 rfl (⟨r48, _, rfl, St.keepP (L1 := L49) ((hs47.fr L49).fb b_s), ho50, ?_⟩)))⟩
  · unfold escD; rw [if_neg e68, if_neg e77, if_neg e69, if_neg e55, if_pos e56]; exact hd51
 have e56 : ¬ b = 56 := by have h9 := h45; simpa using h9
 refine WC.r1 hs1 [] rfl (WC.cq rfl (fun h52 qh52 => ?_) (fun h52 qh52 => ?_))
 ·have e72 : b = 72 := by have h9 := h52; simpa using h9
  have hasc : s.Tabs.xs.Pairwise (· ≤ ·) := asc_le hf.tab
  refine WC.sq1 hs1 (WQ.r 8 [0, 0] rfl ?_)
  refine WQ.call rfl rfl rfl (fun w_ hs_ => (Run.call Tryz.call82 rfl rfl rfl)) (fun w_ hs_ => (k72_ _ _ _ _ _ _ (ownScrR.ok (B := 549755813888) o_s ((hs_ : St _ _ _ _).ow L_s) (by assumption)).Tabs ?_ ?_).mono fun e_ w_ h_ => ⟨h_.1, (hs_ : St _ _ _ _).call0 h_.2⟩) ?_
  · first | assumption | rfl | omega
  · first | assumption | rfl | omega
  refine WQ.r 5 [] rfl (WQ.nil (fun _ (hs53 : St _ _ _ _) => WC.r1 hs53 [] rfl ?_))
  refine WC.cq rfl (fun h54 qh54 => ?_) (fun h54 qh54 => ?_)
  ·have hni : s.dat.X ∉ s.dat.Tabs := by show ¬ s.X ∈ s.Tabs.xs; have h9 := h54; simpa using h9
   refine WC.rG 14 (hs53.d1.rm L_s) (hs53.rm L_s) hs53 (fun _ hs55 => ?_)
   refine WG.rn [0, 1, 2, 3, 4, 5, 6, 7, 8, 9] (hs55.rm L_s) [0, 0] rfl rfl (WG.o1 10 rfl rfl (WL.buildSlice hs55 Tryz.runUnderlying26 Tryz.sizeOf3 Tryz.zeroValue3 rfl rfl rfl rfl rfl rfl rfl rfl rfl rfl (fun b56 whs57 hs57 => WL.nil ⟨(hs57.d1.rm L_s), WG.o1 11 rfl rfl ?_⟩)))
   obtain ⟨L59, L60, L61, L62, hs67, ho63, ho64, ho65, ho66⟩ := ownScrR.op hs57 o_s
   have hs68 := ((hs67.fb b_s).fb b56)
   refine WL.cl Tryz.call83 rfl (k73_ _ _ _ _ _ _ _ ho65 (hs68.ow L61) (hs68.own _ (nthL_mem (i := 0) rfl)).1 (St.sepOwn (hs68.fr L61) (nthL_mem (i := 0) rfl)) ?_ ?_) ?_
   iterate 2 first | assumption | rfl | omega | exact lowb_le
   rintro _ whs58 ⟨A69, c70, L1_71, rfl, hs58, ho72⟩
   replace hs58 := St.lend (hs68.fr L61) hs58
   refine ⟨_, rfl, ?_⟩
   replace hs58 := St.back [_, _] hs58
   refine WL.nil ⟨((((hs58.d1.rm L1_71).rm L59).rm L60).rm L62), WG.rn [12, 13] ((((hs58.d1.rm L1_71).rm L59).rm L60).rm L62) [] rfl rfl (WG.oK rfl (WL.st tbk hs58 1 rfl rfl (fun _ hs73 => WL.nil ⟨((((hs73.d1.d1.rm L1_71).rm L59).rm L60).rm L62), WH.dn (ibN (retK0 rfl ?_))⟩)))⟩
   obtain ⟨L75, hs74, ho76⟩ := ownScrR.fl hs73 ho63 ho64 ho72 ho66
   have hs77 := ((hs74.fb b_s).fb b56)
   refine ownScrR.retp4 rfl ((hs77.fr L75).fb b_s) ho76 ?_
   · unfold escD; rw [if_neg e68, if_neg e77, if_neg e69, if_neg e55, if_neg e56, if_pos e72]; refine Eq.trans ?_ (show ({ s.dat with Tabs := insL s.dat.Tabs (lowb s.dat.Tabs s.dat.X) s.dat.X } : ScrD) = tabD s.dat from by rw [tabL_ins hf hni]; rfl); rfl
  have hin : s.dat.X ∈ s.dat.Tabs := by show s.X ∈ s.Tabs.xs; have h9 := h54; simpa using h9
  refine WC.skip (ibN (retK0 rfl (⟨s, _, rfl, St.keepP (L1 := L_s) ((hs53.fr L_s).fb b_s), o_s, ?_⟩)))
  · unfold escD; rw [if_neg e68, if_neg e77, if_neg e69, if_neg e55, if_neg e56, if_pos e72]; refine Eq.trans ?_ (show ({ s.dat with Tabs := s.dat.Tabs } : ScrD) = tabD s.dat from by unfold tabD; rw [← tabL_has hf hin]); rfl
 have e72 : ¬ b = 72 := by have h9 := h52; simpa using h9
 refine WC.r1 hs1 [] rfl (WC.cq rfl (fun h78 qh78 => ?_) (fun h78 qh78 => ?_))
 ·have e99 : b = 99 := by have h9 := h78; simpa using h9
  refine WC.r1 hs1 [0] rfl (WC.seq (fun K79 hK79 => WC.rG 18 hs1.d1 hs1 hs1 (fun _ hs80 => ?_)))
  refine WG.rn [0, 1, 2, 3, 4, 5, 6, 7, 8, 9, 10, 11, 12] hs80 [0, 0, 0] rfl rfl (WG.o1 13 rfl rfl (WL.cl Tryz.call84 rfl (k28_ _ _ _ _) ?_))
  rintro _ whs81 ⟨r0_82, L0_83, rfl, hs81, ho84, hd0_85⟩
  replace hs81 := hs80.callF hs81
  refine ⟨_, rfl, ?_⟩
  replace hs81 := St.back [_] hs81
  refine WL.nil ⟨(hs81.rm L0_83), WG.rn [14, 15, 16, 17] (hs81.rm L0_83) [] rfl rfl (WG.oK rfl (WL.st tbk hs81 0 rfl rfl (fun _ hs86 => WL.nil ⟨(hs86.d1.rm L0_83), WH.dn (hK79 _ _ (WC.region ?_))⟩)))⟩
  refine WL.r 4 hs86 [] rfl (WL.st tbk hs86 0 rfl rfl (fun _ hs87 => WL.nil (ibN (retK0 rfl ?_))))
  obtain ⟨L88, L89, L90, L91, hs96, ho92, ho93, ho94, ho95⟩ := ownScrR.op hs87 ho84
  have hs97 := (hs96.fb b_s)
  obtain ⟨L98, L99, L100, L101, hs106, ho102, ho103, ho104, ho105⟩ := ownScrR.op hs97 o_s
  have hs107 := (hs106.fb b_s)
  obtain ⟨L109, hs108, ho110⟩ := ownScrR.fl hs107 ho92 ho93 ho94 ho105
  have hs111 := (hs108.fb b_s)
  refine ownScrR.retp4 rfl ((hs111.fr L109).fb b_s) ho110 ?_
  · unfold escD; rw [if_neg e68, if_neg e77, if_neg e69, if_neg e55, if_neg e56, if_neg e72, if_pos e99]; have hm9 : scrRes s.W s.H s.Limit = scrNew s.W s.H s.Limit := by { unfold scrRes scrMay; rw [if_pos]; rw [Bool.and_eq_true, within_iff]; exact ⟨hf.size, hf.lim.1⟩ }; refine Eq.trans ?_ (show ({ scrRes s.W s.H s.Limit with Back := s.dat.Back } : ScrD) = resetD s.dat from by rw [hm9]; rfl); rw [← hd0_85]; rfl
 have e99 : ¬ b = 99 := by have h9 := h78; simpa using h9
 refine WC.skip (ibN (retK0 rfl (⟨s, _, rfl, St.keepP (L1 := L_s) ((hs1.fr L_s).fb b_s), o_s, ?_⟩)))
 · unfold escD; rw [if_neg e68, if_neg e77, if_neg e69, if_neg e55, if_neg e56, if_neg e72, if_neg e99]
end Go.Proofs.YtgigdjgjmfekkaaGreatDoor
