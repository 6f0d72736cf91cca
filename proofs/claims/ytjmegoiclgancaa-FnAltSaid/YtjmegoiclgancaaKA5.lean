/-
  The statement: for every input the law returns true. No condition. (And what it stands on, the last part.)
-/
import Derived.Test.YtjmegoiclgancaaKA4
namespace Go.Proofs.Ytjmegoiclgancaa
open Go Go.RowKit
set_option linter.unusedVariables false
set_option linter.unusedSimpArgs false
set_option maxHeartbeats 4000000 in
theorem k112_ (b_c : Nat) (A_s : Option Addr) (n_s c_s : Nat) (s : List UInt8) (i h : Int)  (w : World) (hc : w.heap[b_c]? = some (Obj.cells (List.toArray [.slice A_s n_s c_s, i64 (i), i64 (h)]) 86 (0, 0))) (f_s : SlF encB w A_s n_s s) (s_s : 0 < n_s → (adr A_s).block ∉ [b_c]) (hn : n_s ≤ 1099511627776) (hi : 0 ≤ i ∧ i ≤ n_s) :
    Calls Try.prog 23 #[.pointer (some ⟨b_c, 0, none⟩)] w fun e w' => ∃ r L1 i' h', e = .returned (.agg #[i64 r.W, i64 r.H, i64 r.Main.W, i64 r.Main.H, .slice r.Main.Cells.A r.Main.Cells.n r.Main.Cells.c, i64 r.Alt.W, i64 r.Alt.H, .slice r.Alt.Cells.A r.Alt.Cells.n r.Alt.Cells.c, .bool r.OnAlt, i64 r.X, i64 r.Y, .bool r.Wrap, i64 r.A.Fg, i64 r.A.Bg, .bool r.A.Bold, .bool r.A.Under, .bool r.A.Turn, i64 r.Top, i64 r.Bot, .bool r.NoWrap, .bool r.Hide, i64 r.SaveX, i64 r.SaveY, i64 r.SaveA.Fg, i64 r.SaveA.Bg, .bool r.SaveA.Bold, .bool r.SaveA.Under, .bool r.SaveA.Turn, .slice r.Tabs.A r.Tabs.n r.Tabs.c, i64 r.Limit, .slice r.Back.A r.Back.n r.Back.c]) ∧ St w [b_c] ((b_c, Obj.cells (List.toArray [.slice A_s n_s c_s, i64 (i'), i64 (h')]) 86 (0, 0)) :: L1) w' ∧ ownScrR r L1 ∧ Small r.dat ∧ (0 ≤ i' ∧ i' ≤ n_s) := by
 have hl := f_s.len
 refine enter 100 Try.func23 rfl Try.ntmps23 rfl rfl ?_
 have hs1 := St.take1 w b_c _ hc
 refine WC.sr (WL.al hs1 Try.zeroValue31 rfl rfl (fun b2 _ hs3 => WL.nil (WC.sr (WL.r 1 hs3 [] rfl ?_))))
 replace hs3 := (hs3.fb b_c)
 have hF4 : St _ _ ([(b_c, _)] ++ _) _ := hs3
 refine WL.call rfl rfl rfl (Run.call Try.call41 rfl rfl rfl) (k107_ _ _ _ _ _ _ _ _ _ (hF4.own _ List.mem_cons_self).1 (SlF.st f_s hs3 s_s) (St.sepT hF4 f_s s_s) ?_ ?_) ?_
 · omega
 · omega
 rintro _ whs10 ⟨r5, i6, h7, rfl, hs10, hr8, hi9⟩
 replace hs10 := St.lend1 hF4 hs10
 try have hbhr8 := hr8.2 (by omega)
 refine ⟨_, rfl, WL.r 2 hs10 [] rfl ?_⟩
 have hF11 : St _ _ ([(b_c, _)] ++ _) _ := hs10
 refine WL.call rfl rfl rfl (Run.call Try.call41 rfl rfl rfl) (k107_ _ _ _ _ _ _ _ _ _ (hF11.own _ List.mem_cons_self).1 (SlF.st f_s hs10 s_s) (St.sepT hF11 f_s s_s) ?_ ?_) ?_
 · omega
 · omega
 rintro _ whs17 ⟨r12, i13, h14, rfl, hs17, hr15, hi16⟩
 replace hs17 := St.lend1 hF11 hs17
 try have hbhr15 := hr15.2 (by omega)
 refine ⟨_, rfl, WL.r 2 hs17 [] rfl ?_⟩
 have hF18 : St _ _ ([(b_c, _)] ++ _) _ := hs17
 refine WL.call rfl rfl rfl (Run.call Try.call41 rfl rfl rfl) (k107_ _ _ _ _ _ _ _ _ _ (hF18.own _ List.mem_cons_self).1 (SlF.st f_s hs17 s_s) (St.sepT hF18 f_s s_s) ?_ ?_) ?_
 · omega
 · omega
 rintro _ whs24 ⟨r19, i20, h21, rfl, hs24, hr22, hi23⟩
 replace hs24 := St.lend1 hF18 hs24
 try have hbhr22 := hr22.2 (by omega)
 refine ⟨_, rfl, WL.cl Try.call24 rfl (k22_ _ _ _ _) ?_⟩
 rintro _ whs25 ⟨r0_26, L0_27, rfl, hs25, ho28, hd0_29⟩
 replace hs25 := hs24.callF hs25
 refine ⟨_, rfl, ?_⟩
 replace hs25 := St.back [_, _] hs25
 have hm0 : Small r0_26.dat := by rw [hd0_29]; exact Small.new (by omega) (by omega) (by omega)
 have hsm0 : smScr 549755813888 r0_26.dat := fine_smB hm0.fine (by decide)
 refine WL.r 3 hs25 [] rfl (WL.al hs25 Try.zeroValue31 rfl rfl (fun b30 _ hs31 => WL.st tbk hs31 0 rfl rfl (fun _ hs32 => WL.r 1 hs32 [] rfl (WL.nil (WC.seq (fun K33 hK33 => WC.sr (WL.r 1 hs32 [] rfl ?_)))))))
 replace hs32 := (hs32.fb b_c)
 have hF34 : St _ _ ([(b_c, _)] ++ _) _ := hs32
 refine WL.call rfl rfl rfl (Run.call Try.call41 rfl rfl rfl) (k107_ _ _ _ _ _ _ _ _ _ (hF34.own _ List.mem_cons_self).1 (SlF.st f_s hs32 s_s) (St.sepT hF34 f_s s_s) ?_ ?_) ?_
 · omega
 · omega
 rintro _ whs40 ⟨r35, i36, h37, rfl, hs40, hr38, hi39⟩
 replace hs40 := St.lend1 hF34 hs40
 try have hbhr38 := hr38.2 (by omega)
 refine ⟨_, rfl, WL.r 1 hs40 [] rfl (WL.nil (WC.block ?_))⟩
 have hM45 := (St.grp1 (L1 := L0_27) [_, _] ((((hs40.fb b2).fr L0_27).fb b_c).fb b30))
 refine WC.lV [0, 2, 3] rfl hM45 (fun k_ (a_ : Hp) f => ∃ (n i1 h1 : Int) (r : ScrR) (L43 : Hp), k_ = n.toNat ∧ a_ = [(b30, .cells (List.toArray [i64 r.W, i64 r.H, i64 r.Main.W, i64 r.Main.H, .slice r.Main.Cells.A r.Main.Cells.n r.Main.Cells.c, i64 r.Alt.W, i64 r.Alt.H, .slice r.Alt.Cells.A r.Alt.Cells.n r.Alt.Cells.c, .bool r.OnAlt, i64 r.X, i64 r.Y, .bool r.Wrap, i64 r.A.Fg, i64 r.A.Bg, .bool r.A.Bold, .bool r.A.Under, .bool r.A.Turn, i64 r.Top, i64 r.Bot, .bool r.NoWrap, .bool r.Hide, i64 r.SaveX, i64 r.SaveY, i64 r.SaveA.Fg, i64 r.SaveA.Bg, .bool r.SaveA.Bold, .bool r.SaveA.Under, .bool r.SaveA.Turn, .slice r.Tabs.A r.Tabs.n r.Tabs.c, i64 r.Limit, .slice r.Back.A r.Back.n r.Back.c]) 31 (0, 0)), (b_c, .cells (List.toArray [.slice A_s n_s c_s, i64 i1, i64 h1]) 86 (0, 0))] ++ L43 ∧ (Small r.dat) ∧ (0 ≤ n ∧ n ≤ 14) ∧ (0 ≤ i1 ∧ i1 ≤ n_s) ∧ ownScrR r L43 ∧ Sub [(5, .int .i64 n)] f) (((fun (n i1 h1 : Int) => n.toNat) (r35) (i36) (h37))) ?_ ?_
 ·refine ⟨r35, i36, h37, r0_26, L0_27, rfl, rfl, ?_, ?_, ?_, ho28, ⟨rfl, trivial⟩⟩
  · exact hm0
  · omega
  · omega
 rintro _ _ f w ⟨n, i1, h1, r, L43, rfl, rfl, p0, p1, p2, ho44, hG⟩ hF hs46
 refine WC.sub _ (hG.app hF) ?_
 clear hG hF
 replace hs46 := St.ungrp1 [_, _] hs46
 have hs47 := (((hs46.fb b2).fb b_c).fb b30)
 have hsmr : smScr 549755813888 r.dat := fine_smB p0.fine (by decide)
 have hsm1 : smScr 1048576 r.dat := fine_smB p0.fine (by decide)
 have hbr : r.W ≤ 10 ∧ r.H ≤ 4 := ⟨p0.w, p0.h⟩
 have hbs := isSize_bnd p0.fine.size
 simp only [ScrR.dat] at hbs
 refine WC.seq (fun K48 hK48 => WC.r1 hs47 [] rfl ?_)
 refine WC.cq rfl (fun h49 qh49 => ?_) (fun h49 qh49 => ?_)
 ·refine WC.skip (hK48 _ _ (WC.seq (fun K50 hK50 => WC.block (WC.sr (WL.r 1 hs47 [] rfl ?_)))))
  replace hs47 := (hs47.fb b_c)
  have hF51 : St _ _ ([(b_c, _)] ++ _) _ := hs47
  refine WL.call rfl rfl rfl (Run.call Try.call41 rfl rfl rfl) (k107_ _ _ _ _ _ _ _ _ _ (hF51.own _ List.mem_cons_self).1 (SlF.st f_s hs47 s_s) (St.sepT hF51 f_s s_s) ?_ ?_) ?_
  · omega
  · omega
  rintro _ whs57 ⟨r52, i53, h54, rfl, hs57, hr55, hi56⟩
  replace hs57 := St.lend1 hF51 hs57
  try have hbhr55 := hr55.2 (by omega)
  refine ⟨_, rfl, WL.r 1 hs57 [] rfl (WL.nil (WC.r1 hs57 [] rfl (WC.cq rfl (fun h58 qh58 => ?_) (fun h58 qh58 => ?_))))⟩
  ·refine WC.rG 4 hs57.d1.d1 hs57.d1 hs57 (fun _ hs59 => ?_)
   refine WG.rn [0, 1] hs59.d1 [0] rfl rfl (WG.o1 2 rfl rfl ?_)
   have hF60 : St _ _ ([(b_c, _)] ++ _) _ := hs59
   refine WL.call rfl rfl rfl (Run.call Try.call42 rfl rfl rfl) (k109_ _ _ _ _ _ _ _ _ (hF60.own _ List.mem_cons_self).1 (SlF.st f_s hs59 s_s) (St.sepT hF60 f_s s_s) ?_ ?_) ?_
   · omega
   · omega
   rintro _ whs66 ⟨r61, i62, h63, rfl, hs66, hr64, hi65⟩
   replace hs66 := St.lend1 hF60 hs66
   refine ⟨_, rfl, WL.nil ⟨hs66.d1, WG.o1 3 rfl rfl (WL.cl Try.call57 rfl (k103_ r _ _ (ownScrR.ok (B := 549755813888) ho44 (hs66.ow L43) hsmr) ?_) ?_)⟩⟩
   · first | assumption | rfl | omega | exact hsm1
   rintro _ whs67 ⟨r68, L1_69, rfl, hs67, ho70, hd71⟩
   replace hs67 := hs66.callF hs67
   refine ⟨_, rfl, ?_⟩
   replace hs67 := St.back [_, _, _] hs67
   refine WL.nil ⟨(hs67.d1.rm L1_69), WG.oK rfl (WL.st tbk hs67 1 rfl rfl (fun _ hs72 => WL.nil ⟨(hs72.d1.d1.rm L1_69), WH.dn (hK50 _ _ (WC.region (WL.r 3 hs72 [] rfl ?_)))⟩))⟩
   refine WL.nil (tkN ?_)
   replace hs72 := (hs72.rm L43)
   have hF73 := (St.grp1 (L1 := L1_69) [_, _] ((((hs72.fb b2).fr L1_69).fb b_c).fb b30))
   refine ⟨sbF rfl, _, hF73, _, ?_, _, i62, h63, r68, L1_69, rfl, rfl, ?_, ?_, ?_, ho70, ⟨rfl, trivial⟩⟩
   · omega
   · first | (rw [hd71]; first | exact p0.rune | exact p0.ctl | exact p0.go) | exact p0.sgr rfl
   · omega
   · omega
  refine WC.r1 hs57 [] rfl (WC.cq rfl (fun h74 qh74 => ?_) (fun h74 qh74 => ?_))
  ·refine WC.rG 7 hs57.d1.d1 hs57.d1 hs57 (fun _ hs75 => ?_)
   refine WG.rn [0, 2] hs75.d1 [0] rfl rfl (WG.all [1, 3] (by kernel_rfl) rfl (WGs.cons (i := 1) rfl rfl ?_ (WGs.cons (i := 3) rfl rfl ?_ WGs.nil)))
   ·refine WL.buildF (F := encI) hs75 ([8, 9, 10, 13]) Try.runUnderlying28 Try.sizeOf3 Try.zeroValue3 rfl rfl rfl rfl rfl rfl rfl rfl rfl rfl rfl rfl (fun A79 c80 L76 whs77 hs77 ho78 => ?_)
    replace hs77 := St.back [_, _, _] hs77
    refine WL.nil ⟨(hs77.d1.rm L76), ?_⟩
    refine WG.strS hs77.d1 (fun w_ h_ => (h_.rm L76)) ?_
    refine WG.o1 3 rfl rfl ?_
    have hF81 : St _ _ ([(b_c, _)] ++ _) _ := hs77
    refine WL.call rfl rfl rfl (Run.call Try.call41 rfl rfl rfl) (k107_ _ _ _ _ _ _ _ _ _ (hF81.own _ List.mem_cons_self).1 (SlF.st f_s hs77 s_s) (St.sepT hF81 f_s s_s) ?_ ?_) ?_
    · omega
    · omega
    rintro _ whs87 ⟨r82, i83, h84, rfl, hs87, hr85, hi86⟩
    replace hs87 := St.lend1 hF81 hs87
    try have hbhr85 := hr85.2 (by omega)
    refine ⟨_, rfl, WL.nil ⟨hs87.d1, ?_⟩⟩
    refine WG.strS hs87.d1 (fun w_ h_ => h_) ?_
    refine WG.tk 4 rfl (by kernel_rfl) rfl rfl rfl hs87.d1 (fun w_ hs_ => (Run.idxK (r82.toNat) Try.runUnderlying28 Try.sizeOf3 rfl rfl rfl ?_ ?_ ?_)) ?_
    · exact SlF.some_ (SlF.ofOwn ho78 ((hs_ : St _ _ _ _).ow L76))
    · first | omega | (show _ < 4; omega)
    · first | omega | (show _ < 4; omega)
    refine WG.tk 5 rfl (by kernel_rfl) rfl rfl rfl hs87.d1 (fun w_ hs_ => (Run.load Try.isAgg3 rfl rfl (SlF.one1 (SlF.ofOwn ho78 ((hs_ : St _ _ _ _).ow L76)) ?_ rfl))) ?_
    · first | omega | (show _ < 4; omega)
    refine WG.o1 6 rfl rfl (WL.cl Try.call58 rfl (k104_ r _ _ (ownScrR.ok (B := 549755813888) ho44 (hs87.ow L43) hsmr) ?_) ?_)
    · first | assumption | rfl | omega | exact hsm1
    rintro _ whs88 ⟨r89, L1_90, rfl, hs88, ho91, hd92⟩
    replace hs88 := hs87.callF hs88
    refine ⟨_, rfl, ?_⟩
    replace hs88 := St.back [_, _, _] hs88
    refine WL.nil ⟨(hs88.d1.rm L1_90), ?_⟩
    refine WG.strS hs88.d1 (fun w_ h_ => (h_.rm L1_90)) ?_
    refine WG.oK rfl (WL.st tbk hs88 1 rfl rfl (fun _ hs93 => WL.nil ⟨((hs93.d1.d1.rm L1_90).rm L76), ?_⟩))
    refine WH.strS hs93.d1 (fun w_ h_ => ((h_.d1.rm L1_90).rm L76)) ?_
    refine WH.dn (hK50 _ _ (WC.region (WL.r 3 hs93 [] rfl (WL.nil (tkN ?_)))))
    replace hs93 := ((hs93.rm L76).rm L43)
    have hF94 := (St.grp1 (L1 := L1_90) [_, _] ((((hs93.fb b2).fr L1_90).fb b_c).fb b30))
    refine ⟨sbF rfl, _, hF94, _, ?_, _, i83, h84, r89, L1_90, rfl, rfl, ?_, ?_, ?_, ho91, ⟨rfl, trivial⟩⟩
    · omega
    · first | (rw [hd92]; first | exact p0.rune | exact p0.ctl | exact p0.go) | exact p0.sgr rfl
    · omega
    · omega
   have hF95 : St _ _ ([(b_c, _)] ++ _) _ := hs75
   refine WL.call rfl rfl rfl (Run.call Try.call41 rfl rfl rfl) (k107_ _ _ _ _ _ _ _ _ _ (hF95.own _ List.mem_cons_self).1 (SlF.st f_s hs75 s_s) (St.sepT hF95 f_s s_s) ?_ ?_) ?_
   · omega
   · omega
   rintro _ whs101 ⟨r96, i97, h98, rfl, hs101, hr99, hi100⟩
   replace hs101 := St.lend1 hF95 hs101
   try have hbhr99 := hr99.2 (by omega)
   refine ⟨_, rfl, WL.nil ⟨hs101.d1, ?_⟩⟩
   refine WG.strS hs101.d1 (fun w_ h_ => h_) ?_
   refine WG.o1 1 rfl rfl (WL.buildF (F := encI) hs101 ([8, 9, 10, 13]) Try.runUnderlying28 Try.sizeOf3 Try.zeroValue3 rfl rfl rfl rfl rfl rfl rfl rfl rfl rfl rfl rfl (fun A105 c106 L102 whs103 hs103 ho104 => ?_))
   replace hs103 := St.back [_, _, _] hs103
   refine WL.nil ⟨(hs103.d1.rm L102), ?_⟩
   refine WG.strS hs103.d1 (fun w_ h_ => (h_.rm L102)) ?_
   refine WG.tk 4 rfl (by kernel_rfl) rfl rfl rfl hs103.d1 (fun w_ hs_ => (Run.idxK (r96.toNat) Try.runUnderlying28 Try.sizeOf3 rfl rfl rfl ?_ ?_ ?_)) ?_
   · exact SlF.some_ (SlF.ofOwn ho104 ((hs_ : St _ _ _ _).ow L102))
   · first | omega | (show _ < 4; omega)
   · first | omega | (show _ < 4; omega)
   refine WG.tk 5 rfl (by kernel_rfl) rfl rfl rfl hs103.d1 (fun w_ hs_ => (Run.load Try.isAgg3 rfl rfl (SlF.one1 (SlF.ofOwn ho104 ((hs_ : St _ _ _ _).ow L102)) ?_ rfl))) ?_
   · first | omega | (show _ < 4; omega)
   refine WG.o1 6 rfl rfl (WL.cl Try.call58 rfl (k104_ r _ _ (ownScrR.ok (B := 549755813888) ho44 (hs103.ow L43) hsmr) ?_) ?_)
   · first | assumption | rfl | omega | exact hsm1
   rintro _ whs107 ⟨r108, L1_109, rfl, hs107, ho110, hd111⟩
   replace hs107 := hs103.callF hs107
   refine ⟨_, rfl, ?_⟩
   replace hs107 := St.back [_, _, _] hs107
   refine WL.nil ⟨(hs107.d1.rm L1_109), ?_⟩
   refine WG.strS hs107.d1 (fun w_ h_ => (h_.rm L1_109)) ?_
   refine WG.oK rfl (WL.st tbk hs107 1 rfl rfl (fun _ hs112 => WL.nil ⟨((hs112.d1.d1.rm L1_109).rm L102), ?_⟩))
   refine WH.strS hs112.d1 (fun w_ h_ => ((h_.d1.rm L1_109).rm L102)) ?_
   refine WH.dn (hK50 _ _ (WC.region (WL.r 3 hs112 [] rfl (WL.nil (tkN ?_)))))
   replace hs112 := ((hs112.rm L102).rm L43)
   have hF113 := (St.grp1 (L1 := L1_109) [_, _] ((((hs112.fb b2).fr L1_109).fb b_c).fb b30))
   refine ⟨sbF rfl, _, hF113, _, ?_, _, i97, h98, r108, L1_109, rfl, rfl, ?_, ?_, ?_, ho110, ⟨rfl, trivial⟩⟩
   · omega
   · first | (rw [hd111]; first | exact p0.rune | exact p0.ctl | exact p0.go) | exact p0.sgr rfl
   · omega
   · omega
  refine WC.r1 hs57 [] rfl (WC.cq rfl (fun h114 qh114 => ?_) (fun h114 qh114 => ?_))
  ·refine WC.rG 10 hs57.d1.d1 hs57.d1 hs57 (fun _ hs115 => ?_)
   refine WG.rn [0, 1, 2, 3, 5, 6, 7] hs115.d1 [0, 0, 0] rfl rfl (WG.o1 4 rfl rfl ?_)
   have hF116 : St _ _ ([(b_c, _)] ++ _) _ := hs115
   refine WL.call rfl rfl rfl (Run.call Try.call41 rfl rfl rfl) (k107_ _ _ _ _ _ _ _ _ _ (hF116.own _ List.mem_cons_self).1 (SlF.st f_s hs115 s_s) (St.sepT hF116 f_s s_s) ?_ ?_) ?_
   · omega
   · omega
   rintro _ whs122 ⟨r117, i118, h119, rfl, hs122, hr120, hi121⟩
   replace hs122 := St.lend1 hF116 hs122
   try have hbhr120 := hr120.2 (by omega)
   refine ⟨_, rfl, WL.nil ⟨hs122.d1, WG.o1 8 rfl rfl ?_⟩⟩
   have hF123 : St _ _ ([(b_c, _)] ++ _) _ := hs122
   refine WL.call rfl rfl rfl (Run.call Try.call41 rfl rfl rfl) (k107_ _ _ _ _ _ _ _ _ _ (hF123.own _ List.mem_cons_self).1 (SlF.st f_s hs122 s_s) (St.sepT hF123 f_s s_s) ?_ ?_) ?_
   · omega
   · omega
   rintro _ whs129 ⟨r124, i125, h126, rfl, hs129, hr127, hi128⟩
   replace hs129 := St.lend1 hF123 hs129
   try have hbhr127 := hr127.2 (by omega)
   refine ⟨_, rfl, WL.nil ⟨hs129.d1, WG.o1 9 rfl rfl (WL.cl Try.call59 rfl (k101_ r _ _ _ (ownScrR.ok (B := 549755813888) ho44 (hs129.ow L43) hsmr) ?_) ?_)⟩⟩
   · first | assumption | rfl | omega | exact hsm1
   rintro _ whs130 ⟨r131, L1_132, rfl, hs130, ho133, hd134⟩
   replace hs130 := hs129.callF hs130
   refine ⟨_, rfl, ?_⟩
   replace hs130 := St.back [_, _, _] hs130
   refine WL.nil ⟨(hs130.d1.rm L1_132), WG.oK rfl (WL.st tbk hs130 1 rfl rfl (fun _ hs135 => WL.nil ⟨(hs135.d1.d1.rm L1_132), WH.dn (hK50 _ _ (WC.region (WL.r 3 hs135 [] rfl ?_)))⟩))⟩
   refine WL.nil (tkN ?_)
   replace hs135 := (hs135.rm L43)
   have hF136 := (St.grp1 (L1 := L1_132) [_, _] ((((hs135.fb b2).fr L1_132).fb b_c).fb b30))
   refine ⟨sbF rfl, _, hF136, _, ?_, _, i125, h126, r131, L1_132, rfl, rfl, ?_, ?_, ?_, ho133, ⟨rfl, trivial⟩⟩
   · omega
   · first | (rw [hd134]; first | exact p0.rune | exact p0.ctl | exact p0.go) | exact p0.sgr rfl
   · omega
   · omega
  refine WC.region (WL.r 1 hs57 [] rfl ?_)
  have hF137 : St _ _ ([(b_c, _)] ++ _) _ := hs57
  refine WL.call rfl rfl rfl (Run.call Try.call60 rfl rfl rfl) (k110_ _ _ _ _ _ _ _ _ (hF137.own _ List.mem_cons_self).1 (SlF.st f_s hs57 s_s) (St.sepT hF137 f_s s_s) ?_ ?_) ?_
  · omega
  · omega
  rintro _ whs143 ⟨a138, i139, h140, rfl, hs143, hr141, hi142⟩
  replace hs143 := St.lend1 hF137 hs143
  refine ⟨_, rfl, WL.r 1 hs143 [] rfl (WL.st tbk hs143 1 rfl rfl (fun _ hs144 => WL.nil (hK50 _ _ (WC.region (WL.r 3 hs144 [] rfl (WL.nil ?_))))))⟩
  refine tkN ?_
  obtain ⟨L145, L146, L147, L148, hs153, ho149, ho150, ho151, ho152⟩ := ownScrR.op hs144 ho44
  have hs154 := (((hs153.fb b2).fb b30).fb b_c)
  obtain ⟨L156, hs155, ho157⟩ := ownScrR.fl hs154 ho149 ho150 ho151 ho152
  have hs158 := (((hs155.fb b2).fb b30).fb b_c)
  have hF159 := (St.grp1 (L1 := L156) [_, _] ((((hs158.fb b2).fr L156).fb b_c).fb b30))
  refine ⟨sbF rfl, _, hF159, _, ?_, _, i139, h140, ⟨r.W, r.H, ⟨r.Main.W, r.Main.H, SlD.of ho149⟩, ⟨r.Alt.W, r.Alt.H, SlD.of ho150⟩, r.OnAlt, r.X, r.Y, r.Wrap, ⟨a138.Fg, a138.Bg, a138.Bold, a138.Under, a138.Turn⟩, r.Top, r.Bot, r.NoWrap, r.Hide, r.SaveX, r.SaveY, ⟨r.SaveA.Fg, r.SaveA.Bg, r.SaveA.Bold, r.SaveA.Under, r.SaveA.Turn⟩, SlD.of ho151, r.Limit, SlD.ofN ho152⟩, L156, rfl, rfl, ?_, ?_, ?_, (by exact ho157), ⟨rfl, trivial⟩⟩
  · omega
  · first | (rw [hd134]; first | exact p0.rune | exact p0.ctl | exact p0.go) | exact p0.sgr hr141
  · omega
  · omega
 have hm0 := p0
 refine WC.exit (hK33 _ _ (WC.seq (fun K160 hK160 => WC.sr (WL.r 1 hs47 [] rfl ?_))))
 replace hs47 := (hs47.fb b_c)
 have hF161 : St _ _ ([(b_c, _)] ++ _) _ := hs47
 refine WL.call rfl rfl rfl (Run.call Try.call41 rfl rfl rfl) (k107_ _ _ _ _ _ _ _ _ _ (hF161.own _ List.mem_cons_self).1 (SlF.st f_s hs47 s_s) (St.sepT hF161 f_s s_s) ?_ ?_) ?_
 · omega
 · omega
 rintro _ whs167 ⟨r162, i163, h164, rfl, hs167, hr165, hi166⟩
 replace hs167 := St.lend1 hF161 hs167
 try have hbhr165 := hr165.2 (by omega)
 refine ⟨_, rfl, WL.r 1 hs167 [] rfl (WL.nil (WC.jCK [0, 2, 3, 5, 21, 22, 57, 58, 59] rfl (((hs167.fr L43).fb b_c).fb b30) (fun o_ p_ L_ => ∃ (r : ScrR) (i_ h_ : Int), o_ = Obj.cells (List.toArray [i64 r.W, i64 r.H, i64 r.Main.W, i64 r.Main.H, .slice r.Main.Cells.A r.Main.Cells.n r.Main.Cells.c, i64 r.Alt.W, i64 r.Alt.H, .slice r.Alt.Cells.A r.Alt.Cells.n r.Alt.Cells.c, .bool r.OnAlt, i64 r.X, i64 r.Y, .bool r.Wrap, i64 r.A.Fg, i64 r.A.Bg, .bool r.A.Bold, .bool r.A.Under, .bool r.A.Turn, i64 r.Top, i64 r.Bot, .bool r.NoWrap, .bool r.Hide, i64 r.SaveX, i64 r.SaveY, i64 r.SaveA.Fg, i64 r.SaveA.Bg, .bool r.SaveA.Bold, .bool r.SaveA.Under, .bool r.SaveA.Turn, .slice r.Tabs.A r.Tabs.n r.Tabs.c, i64 r.Limit, .slice r.Back.A r.Back.n r.Back.c]) 31 (0, 0) ∧ p_ = Obj.cells (List.toArray [.slice A_s n_s c_s, i64 (i_), i64 (h_)]) 86 (0, 0) ∧ ownScrR r L_ ∧ (Small r.dat) ∧ 0 ≤ i_ ∧ i_ ≤ n_s) ?_ ?_))⟩
 ·refine WC.cq rfl (fun h168 qh168 => ?_) (fun h168 qh168 => ?_)
  ·refine WC.region (WL.r 1 hs167 [] rfl (WL.st tbk hs167 1 rfl rfl (fun _ hs169 => WL.nil ?_)))
   obtain ⟨L170, L171, L172, L173, hs178, ho174, ho175, ho176, ho177⟩ := ownScrR.op hs169 ho44
   have hs179 := (((hs178.fb b2).fb b30).fb b_c)
   obtain ⟨L181, hs180, ho182⟩ := ownScrR.fl hs179 ho174 ho175 ho176 ho177
   have hs183 := (((hs180.fb b2).fb b30).fb b_c)
   refine tkN ⟨_, _, _, ((((hs183.fb b2).fr L181).fb b_c).fb b30), ⟨⟨r.W, r.H, ⟨r.Main.W, r.Main.H, SlD.of ho174⟩, ⟨r.Alt.W, r.Alt.H, SlD.of ho175⟩, true, r.X, r.Y, r.Wrap, ⟨r.A.Fg, r.A.Bg, r.A.Bold, r.A.Under, r.A.Turn⟩, r.Top, r.Bot, r.NoWrap, r.Hide, r.SaveX, r.SaveY, ⟨r.SaveA.Fg, r.SaveA.Bg, r.SaveA.Bold, r.SaveA.Under, r.SaveA.Turn⟩, SlD.of ho176, r.Limit, SlD.ofN ho177⟩, i163, h164, rfl, rfl, (by exact ho182), ?_, by omega, by omega⟩, sbF rfl⟩
   · exact hm0.alt
  refine WC.skip (tkN ⟨_, _, _, ((((hs167.fb b2).fr L43).fb b_c).fb b30), ⟨r, i163, h164, rfl, rfl, ho44, ?_, by omega, by omega⟩, sbF rfl⟩)
  · exact hm0
 rintro _ _ L184 _ ⟨r185, i189, h190, rfl, rfl, ho186, hp187, hi191, hi192⟩ hs188 f_ hf_
 refine hK160 _ _ (WC.sub _ hf_ ?_)
 clear hf_
 have hs193 := (((hs188.fb b2).fb b_c).fb b30)
 have hm0 := hp187
 have hsm0 : smScr 549755813888 (ScrR.dat _) := fine_smB hm0.fine (by decide)
 have hbs := isSize_bnd hm0.fine.size
 simp only [ScrR.dat] at hbs
 have hbr := hm0.w
 simp only [ScrR.dat] at hbr
 refine WC.seq (fun K194 hK194 => WC.sr (WL.r 1 hs193 [] rfl ?_))
 replace hs193 := (hs193.fb b_c)
 have hF195 : St _ _ ([(b_c, _)] ++ _) _ := hs193
 refine WL.call rfl rfl rfl (Run.call Try.call41 rfl rfl rfl) (k107_ _ _ _ _ _ _ _ _ _ (hF195.own _ List.mem_cons_self).1 (SlF.st f_s hs193 s_s) (St.sepT hF195 f_s s_s) ?_ ?_) ?_
 · omega
 · omega
 rintro _ whs201 ⟨r196, i197, h198, rfl, hs201, hr199, hi200⟩
 replace hs201 := St.lend1 hF195 hs201
 try have hbhr199 := hr199.2 (by omega)
 refine ⟨_, rfl, WL.r 2 hs201 [] rfl (WL.pA tbk 3 Acts.nil hs201 [1] rfl rfl rfl rfl (fun g_ => ⟨rfl, trivial⟩) (WL.nil (WC.jCK [0, 2, 3, 5, 21, 22, 57, 58, 59, 61, 62, 63, 64, 68] rfl (((hs201.fr L184).fb b_c).fb b30) (fun o_ p_ L_ => ∃ (r : ScrR) (i_ h_ : Int), o_ = Obj.cells (List.toArray [i64 r.W, i64 r.H, i64 r.Main.W, i64 r.Main.H, .slice r.Main.Cells.A r.Main.Cells.n r.Main.Cells.c, i64 r.Alt.W, i64 r.Alt.H, .slice r.Alt.Cells.A r.Alt.Cells.n r.Alt.Cells.c, .bool r.OnAlt, i64 r.X, i64 r.Y, .bool r.Wrap, i64 r.A.Fg, i64 r.A.Bg, .bool r.A.Bold, .bool r.A.Under, .bool r.A.Turn, i64 r.Top, i64 r.Bot, .bool r.NoWrap, .bool r.Hide, i64 r.SaveX, i64 r.SaveY, i64 r.SaveA.Fg, i64 r.SaveA.Bg, .bool r.SaveA.Bold, .bool r.SaveA.Under, .bool r.SaveA.Turn, .slice r.Tabs.A r.Tabs.n r.Tabs.c, i64 r.Limit, .slice r.Back.A r.Back.n r.Back.c]) 31 (0, 0) ∧ p_ = Obj.cells (List.toArray [.slice A_s n_s c_s, i64 (i_), i64 (h_)]) 86 (0, 0) ∧ ownScrR r L_ ∧ (Small r.dat) ∧ 0 ≤ i_ ∧ i_ ≤ n_s) ?_ ?_)))⟩
 ·refine WC.cq rfl (fun h202 qh202 => ?_) (fun h202 qh202 => ?_)
  ·have hcH := qh202
   refine WC.sr (WL.r 4 hs201 [1] rfl ?_)
   have hF203 : St _ _ ([(b_c, _)] ++ _) _ := hs201
   refine WL.call rfl rfl rfl (Run.call Try.call41 rfl rfl rfl) (k107_ _ _ _ _ _ _ _ _ _ (hF203.own _ List.mem_cons_self).1 (SlF.st f_s hs201 s_s) (St.sepT hF203 f_s s_s) ?_ ?_) ?_
   · omega
   · omega
   rintro _ whs209 ⟨r204, i205, h206, rfl, hs209, hr207, hi208⟩
   replace hs209 := St.lend1 hF203 hs209
   try have hbhr207 := hr207.2 (by omega)
   refine ⟨_, rfl, WL.r 1 hs209 [] rfl (WL.st tbk hs209 1 rfl rfl (fun _ hs210 => WL.nil (WC.region (WL.r 4 hs210 [1] rfl (WL.st tbk hs210 1 rfl rfl (fun _ hs211 => WL.nil ?_))))))⟩
   obtain ⟨L212, L213, L214, L215, hs220, ho216, ho217, ho218, ho219⟩ := ownScrR.op hs211 ho186
   have hs221 := (((hs220.fb b2).fb b30).fb b_c)
   obtain ⟨L223, hs222, ho224⟩ := ownScrR.fl hs221 ho216 ho217 ho218 ho219
   have hs225 := (((hs222.fb b2).fb b30).fb b_c)
   refine tkN ⟨_, _, _, ((((hs225.fb b2).fr L223).fb b_c).fb b30), ⟨⟨r185.W, r185.H, ⟨r185.Main.W, r185.Main.H, SlD.of ho216⟩, ⟨r185.Alt.W, r185.Alt.H, SlD.of ho217⟩, r185.OnAlt, r185.X, r185.Y, r185.Wrap, ⟨r185.A.Fg, r185.A.Bg, r185.A.Bold, r185.A.Under, r185.A.Turn⟩, r204, (r204 + (1)), r185.NoWrap, r185.Hide, r185.SaveX, r185.SaveY, ⟨r185.SaveA.Fg, r185.SaveA.Bg, r185.SaveA.Bold, r185.SaveA.Under, r185.SaveA.Turn⟩, SlD.of ho218, r185.Limit, SlD.ofN ho219⟩, i205, h206, rfl, rfl, (by exact ho224), ?_, by omega, by omega⟩, sbF rfl⟩
   · exact hm0.part (show 0 ≤ r204 ∧ r204 < r185.H - 1 by have h9 := hr207; have h8 := hr207.2 (by omega); omega)
  refine WC.skip (tkN ⟨_, _, _, ((((hs201.fb b2).fr L184).fb b_c).fb b30), ⟨r185, i197, h198, rfl, rfl, ho186, ?_, by omega, by omega⟩, sbF rfl⟩)
  · exact hm0
 rintro _ _ L226 _ ⟨r227, i231, h232, rfl, rfl, ho228, hp229, hi233, hi234⟩ hs230 f_ hf_
 refine hK194 _ _ (WC.sub _ hf_ ?_)
 clear hf_
 have hs235 := (((hs230.fb b2).fb b_c).fb b30)
 have hm0 := hp229
 have hsm0 : smScr 549755813888 (ScrR.dat _) := fine_smB hm0.fine (by decide)
 have hbs := isSize_bnd hm0.fine.size
 simp only [ScrR.dat] at hbs
 have hbr := hm0.w
 simp only [ScrR.dat] at hbr
 refine WC.seq (fun K236 hK236 => WC.sr (WL.r 1 hs235 [] rfl ?_))
 replace hs235 := (hs235.fb b_c)
 have hF237 : St _ _ ([(b_c, _)] ++ _) _ := hs235
 refine WL.call rfl rfl rfl (Run.call Try.call41 rfl rfl rfl) (k107_ _ _ _ _ _ _ _ _ _ (hF237.own _ List.mem_cons_self).1 (SlF.st f_s hs235 s_s) (St.sepT hF237 f_s s_s) ?_ ?_) ?_
 · omega
 · omega
 rintro _ whs243 ⟨r238, i239, h240, rfl, hs243, hr241, hi242⟩
 replace hs243 := St.lend1 hF237 hs243
 try have hbhr241 := hr241.2 (by omega)
 refine ⟨_, rfl, WL.r 1 hs243 [] rfl (WL.nil (WC.jCK [0, 2, 3, 5, 21, 22, 57, 58, 59, 61, 62, 63, 64, 68, 79, 80, 81] rfl (((hs243.fr L226).fb b_c).fb b30) (fun o_ p_ L_ => ∃ (r : ScrR) (i_ h_ : Int), o_ = Obj.cells (List.toArray [i64 r.W, i64 r.H, i64 r.Main.W, i64 r.Main.H, .slice r.Main.Cells.A r.Main.Cells.n r.Main.Cells.c, i64 r.Alt.W, i64 r.Alt.H, .slice r.Alt.Cells.A r.Alt.Cells.n r.Alt.Cells.c, .bool r.OnAlt, i64 r.X, i64 r.Y, .bool r.Wrap, i64 r.A.Fg, i64 r.A.Bg, .bool r.A.Bold, .bool r.A.Under, .bool r.A.Turn, i64 r.Top, i64 r.Bot, .bool r.NoWrap, .bool r.Hide, i64 r.SaveX, i64 r.SaveY, i64 r.SaveA.Fg, i64 r.SaveA.Bg, .bool r.SaveA.Bold, .bool r.SaveA.Under, .bool r.SaveA.Turn, .slice r.Tabs.A r.Tabs.n r.Tabs.c, i64 r.Limit, .slice r.Back.A r.Back.n r.Back.c]) 31 (0, 0) ∧ p_ = Obj.cells (List.toArray [.slice A_s n_s c_s, i64 (i_), i64 (h_)]) 86 (0, 0) ∧ ownScrR r L_ ∧ (Small r.dat) ∧ 0 ≤ i_ ∧ i_ ≤ n_s) ?_ ?_))⟩
 ·refine WC.cq rfl (fun h244 qh244 => ?_) (fun h244 qh244 => ?_)
  ·refine WC.region (WL.r 1 hs243 [] rfl (WL.st tbk hs243 1 rfl rfl (fun _ hs245 => WL.nil ?_)))
   obtain ⟨L246, L247, L248, L249, hs254, ho250, ho251, ho252, ho253⟩ := ownScrR.op hs245 ho228
   have hs255 := (((hs254.fb b2).fb b30).fb b_c)
   obtain ⟨L257, hs256, ho258⟩ := ownScrR.fl hs255 ho250 ho251 ho252 ho253
   have hs259 := (((hs256.fb b2).fb b30).fb b_c)
   refine tkN ⟨_, _, _, ((((hs259.fb b2).fr L257).fb b_c).fb b30), ⟨⟨r227.W, r227.H, ⟨r227.Main.W, r227.Main.H, SlD.of ho250⟩, ⟨r227.Alt.W, r227.Alt.H, SlD.of ho251⟩, r227.OnAlt, r227.X, r227.Y, r227.Wrap, ⟨r227.A.Fg, r227.A.Bg, r227.A.Bold, r227.A.Under, r227.A.Turn⟩, r227.Top, r227.Bot, true, r227.Hide, r227.SaveX, r227.SaveY, ⟨r227.SaveA.Fg, r227.SaveA.Bg, r227.SaveA.Bold, r227.SaveA.Under, r227.SaveA.Turn⟩, SlD.of ho252, r227.Limit, SlD.ofN ho253⟩, i239, h240, rfl, rfl, (by exact ho258), ?_, by omega, by omega⟩, sbF rfl⟩
   · exact hm0.nowrap
  refine WC.skip (tkN ⟨_, _, _, ((((hs243.fb b2).fr L226).fb b_c).fb b30), ⟨r227, i239, h240, rfl, rfl, ho228, ?_, by omega, by omega⟩, sbF rfl⟩)
  · exact hm0
 rintro _ _ L260 _ ⟨r261, i265, h266, rfl, rfl, ho262, hp263, hi267, hi268⟩ hs264 f_ hf_
 refine hK236 _ _ (WC.sub _ hf_ ?_)
 clear hf_
 have hs269 := (((hs264.fb b2).fb b_c).fb b30)
 have hm0 := hp263
 have hsm0 : smScr 549755813888 (ScrR.dat _) := fine_smB hm0.fine (by decide)
 have hbs := isSize_bnd hm0.fine.size
 simp only [ScrR.dat] at hbs
 have hbr := hm0.w
 simp only [ScrR.dat] at hbr
 refine WC.seq (fun K270 hK270 => WC.sr (WL.r 1 hs269 [] rfl ?_))
 replace hs269 := (hs269.fb b_c)
 have hF271 : St _ _ ([(b_c, _)] ++ _) _ := hs269
 refine WL.call rfl rfl rfl (Run.call Try.call41 rfl rfl rfl) (k107_ _ _ _ _ _ _ _ _ _ (hF271.own _ List.mem_cons_self).1 (SlF.st f_s hs269 s_s) (St.sepT hF271 f_s s_s) ?_ ?_) ?_
 · omega
 · omega
 rintro _ whs277 ⟨r272, i273, h274, rfl, hs277, hr275, hi276⟩
 replace hs277 := St.lend1 hF271 hs277
 try have hbhr275 := hr275.2 (by omega)
 refine ⟨_, rfl, WL.r 1 hs277 [] rfl (WL.nil (WC.jCK [0, 2, 3, 5, 21, 22, 57, 58, 59, 61, 62, 63, 64, 68, 79, 80, 81, 83, 84, 85] rfl (((hs277.fr L260).fb b_c).fb b30) (fun o_ p_ L_ => ∃ (r : ScrR) (i_ h_ : Int), o_ = Obj.cells (List.toArray [i64 r.W, i64 r.H, i64 r.Main.W, i64 r.Main.H, .slice r.Main.Cells.A r.Main.Cells.n r.Main.Cells.c, i64 r.Alt.W, i64 r.Alt.H, .slice r.Alt.Cells.A r.Alt.Cells.n r.Alt.Cells.c, .bool r.OnAlt, i64 r.X, i64 r.Y, .bool r.Wrap, i64 r.A.Fg, i64 r.A.Bg, .bool r.A.Bold, .bool r.A.Under, .bool r.A.Turn, i64 r.Top, i64 r.Bot, .bool r.NoWrap, .bool r.Hide, i64 r.SaveX, i64 r.SaveY, i64 r.SaveA.Fg, i64 r.SaveA.Bg, .bool r.SaveA.Bold, .bool r.SaveA.Under, .bool r.SaveA.Turn, .slice r.Tabs.A r.Tabs.n r.Tabs.c, i64 r.Limit, .slice r.Back.A r.Back.n r.Back.c]) 31 (0, 0) ∧ p_ = Obj.cells (List.toArray [.slice A_s n_s c_s, i64 (i_), i64 (h_)]) 86 (0, 0) ∧ ownScrR r L_ ∧ (Small r.dat) ∧ 0 ≤ i_ ∧ i_ ≤ n_s) ?_ ?_))⟩
 ·refine WC.cq rfl (fun h278 qh278 => ?_) (fun h278 qh278 => ?_)
  ·refine WC.sr (WL.r 3 hs277 [1] rfl ?_)
   have hF279 : St _ _ ([(b_c, _)] ++ _) _ := hs277
   refine WL.call rfl rfl rfl (Run.call Try.call41 rfl rfl rfl) (k107_ _ _ _ _ _ _ _ _ _ (hF279.own _ List.mem_cons_self).1 (SlF.st f_s hs277 s_s) (St.sepT hF279 f_s s_s) ?_ ?_) ?_
   · omega
   · omega
   rintro _ whs285 ⟨r280, i281, h282, rfl, hs285, hr283, hi284⟩
   replace hs285 := St.lend1 hF279 hs285
   try have hbhr283 := hr283.2 (by omega)
   refine ⟨_, rfl, WL.r 1 hs285 [] rfl (WL.st tbk hs285 1 rfl rfl (fun _ hs286 => WL.nil (WC.sr (WL.r 3 hs286 [1] rfl ?_))))⟩
   have hF287 : St _ _ ([(b_c, _)] ++ _) _ := hs286
   refine WL.call rfl rfl rfl (Run.call Try.call41 rfl rfl rfl) (k107_ _ _ _ _ _ _ _ _ _ (hF287.own _ List.mem_cons_self).1 (SlF.st f_s hs286 s_s) (St.sepT hF287 f_s s_s) ?_ ?_) ?_
   · omega
   · omega
   rintro _ whs293 ⟨r288, i289, h290, rfl, hs293, hr291, hi292⟩
   replace hs293 := St.lend1 hF287 hs293
   try have hbhr291 := hr291.2 (by omega)
   refine ⟨_, rfl, WL.r 1 hs293 [] rfl (WL.st tbk hs293 1 rfl rfl (fun _ hs294 => WL.nil (WC.region (WL.r 1 hs294 [] rfl ?_))))⟩
   have hF295 : St _ _ ([(b_c, _)] ++ _) _ := hs294
   refine WL.call rfl rfl rfl (Run.call Try.call60 rfl rfl rfl) (k110_ _ _ _ _ _ _ _ _ (hF295.own _ List.mem_cons_self).1 (SlF.st f_s hs294 s_s) (St.sepT hF295 f_s s_s) ?_ ?_) ?_
   · omega
   · omega
   rintro _ whs301 ⟨a296, i297, h298, rfl, hs301, hr299, hi300⟩
   replace hs301 := St.lend1 hF295 hs301
   refine ⟨_, rfl, WL.r 1 hs301 [] rfl (WL.st tbk hs301 1 rfl rfl (fun _ hs302 => WL.nil ?_))⟩
   obtain ⟨L303, L304, L305, L306, hs311, ho307, ho308, ho309, ho310⟩ := ownScrR.op hs302 ho262
   have hs312 := (((hs311.fb b2).fb b30).fb b_c)
   obtain ⟨L314, hs313, ho315⟩ := ownScrR.fl hs312 ho307 ho308 ho309 ho310
   have hs316 := (((hs313.fb b2).fb b30).fb b_c)
   refine tkN ⟨_, _, _, ((((hs316.fb b2).fr L314).fb b_c).fb b30), ⟨⟨r261.W, r261.H, ⟨r261.Main.W, r261.Main.H, SlD.of ho307⟩, ⟨r261.Alt.W, r261.Alt.H, SlD.of ho308⟩, r261.OnAlt, r261.X, r261.Y, r261.Wrap, ⟨r261.A.Fg, r261.A.Bg, r261.A.Bold, r261.A.Under, r261.A.Turn⟩, r261.Top, r261.Bot, r261.NoWrap, r261.Hide, r280, r288, ⟨a296.Fg, a296.Bg, a296.Bold, a296.Under, a296.Turn⟩, SlD.of ho309, r261.Limit, SlD.ofN ho310⟩, i297, h298, rfl, rfl, (by exact ho315), ?_, by omega, by omega⟩, sbF rfl⟩
   · exact hm0.saved (show 0 ≤ r280 ∧ r280 < r261.W by omega) (show 0 ≤ r288 ∧ r288 < r261.H by omega) hr299
  refine WC.skip (tkN ⟨_, _, _, ((((hs277.fb b2).fr L260).fb b_c).fb b30), ⟨r261, i273, h274, rfl, rfl, ho262, ?_, by omega, by omega⟩, sbF rfl⟩)
  · exact hm0
 rintro _ _ L317 _ ⟨r318, i322, h323, rfl, rfl, ho319, hp320, hi324, hi325⟩ hs321 f_ hf_
 refine hK270 _ _ (WC.sub _ hf_ ?_)
 clear hf_
 have hs326 := (((hs321.fb b2).fb b_c).fb b30)
 have hm0 := hp320
 have hsm0 : smScr 549755813888 (ScrR.dat _) := fine_smB hm0.fine (by decide)
 have hbs := isSize_bnd hm0.fine.size
 simp only [ScrR.dat] at hbs
 have hbr := hm0.w
 simp only [ScrR.dat] at hbr
 refine WC.sr (WL.r 1 hs326 [0] rfl (WL.st tbk hs326 2 rfl rfl (fun _ hs327 => WL.nil (WC.ret (retV1 rfl (resV.cellA tbk hs327 2 rfl rfl rfl rfl) (⟨r318, _, _, _, rfl, St.keepP (L1 := L317) ((hs327.fr L317).fb b_c), ho319, ?_, by omega⟩))))))
 · exact hm0
theorem k113_ (A_s : Option Addr) (n_s c_s : Nat) (s : List UInt8) (w : World) (f_s : SlF encB w A_s n_s s) (hn : n_s ≤ 1048576) :
    Calls Try.prog 6 #[.slice A_s n_s c_s] w fun e w' => ∃ r L1, e = .returned (.agg #[i64 r.W, i64 r.H, i64 r.Main.W, i64 r.Main.H, .slice r.Main.Cells.A r.Main.Cells.n r.Main.Cells.c, i64 r.Alt.W, i64 r.Alt.H, .slice r.Alt.Cells.A r.Alt.Cells.n r.Alt.Cells.c, .bool r.OnAlt, i64 r.X, i64 r.Y, .bool r.Wrap, i64 r.A.Fg, i64 r.A.Bg, .bool r.A.Bold, .bool r.A.Under, .bool r.A.Turn, i64 r.Top, i64 r.Bot, .bool r.NoWrap, .bool r.Hide, i64 r.SaveX, i64 r.SaveY, i64 r.SaveA.Fg, i64 r.SaveA.Bg, .bool r.SaveA.Bold, .bool r.SaveA.Under, .bool r.SaveA.Turn, .slice r.Tabs.A r.Tabs.n r.Tabs.c, i64 r.Limit, .slice r.Back.A r.Back.n r.Back.c]) ∧ St w [] L1 w' ∧ ownScrR r L1 ∧ Small r.dat := by
 refine enter 36 Try.func6 rfl Try.ntmps6 rfl rfl ?_
 have hs1 := St.init w
 refine WC.sr (WL.al hs1 Try.zeroValue31 rfl rfl (fun b2 _ hs3 => WL.nil (WC.sr (WL.r 1 hs3 [] rfl ?_))))
 refine WL.call rfl rfl rfl (Run.call Try.call22 rfl rfl rfl) (k105_ _ _ _ _ _ (SlF.st0 f_s hs3) ?_) ?_
 · omega
 rintro _ whs6 ⟨b4, h5, rfl, hs6⟩
 replace hs6 := hs3.callF hs6
 refine ⟨_, rfl, WL.r 1 hs6 [] rfl (WL.nil (WC.sr (WL.r 1 hs6 [] rfl ?_)))⟩
 have hF7 : St _ _ ([(b4, _)] ++ _) _ := hs6
 refine WL.call rfl rfl rfl (Run.call Try.call23 rfl rfl rfl) (k112_ _ _ _ _ _ _ _ _ (hF7.own _ List.mem_cons_self).1 (SlF.st0 f_s hs6) (St.sep hF7 f_s) ?_ ?_) ?_
 · omega
 · omega
 rintro _ whs15 ⟨r8, L9, i10, h11, rfl, hs15, ho12, hm13, hi14⟩
 replace hs15 : St _ _ ((b4, _) :: (L9 ++ _)) _ := St.lend hF7 hs15
 refine ⟨_, rfl, ?_⟩
 have hs16 := ((hs15.fb b2).fb b4)
 have hsmd : smScr 549755813888 r8.dat := fine_smB hm13.fine (by decide)
 have hm0 := hm13
 have hbs := isSize_bnd hm0.fine.size
 simp only [ScrR.dat] at hbs
 refine WL.al hs16 Try.zeroValue31 rfl rfl (fun b17 _ hs18 => WL.st tbk hs18 0 rfl rfl (fun _ hs19 => WL.nil (WC.seq (fun K20 hK20 => WC.sr (WL.r 3 hs19 [0] rfl ?_)))))
 refine WL.pA tbk 6 Acts.nil hs19 [0, 0] rfl rfl rfl rfl (fun g_ => by (try simp only [bf, within_iff, within_not] at g_); exact ⟨by omega, rfl, rfl, trivial⟩) (WL.r 1 hs19 [] rfl ?_)
 apply WL.gO 10 Acts.nil hs19 rfl
 ·intro g21 J22
  have qg21 := g21
  try simp only [bf, within_iff, within_not] at qg21
  refine WL.runA tbk 6 (Acts.nil.cons (j := 10) rfl g21) hs19 [0, 0] rfl ⟨rfl, rfl, trivial⟩ (WL.pA tbk 3 (Acts.nil.cons (j := 10) rfl g21) hs19 [0] rfl rfl rfl rfl (fun g_ => ⟨rfl, trivial⟩) (WL.eO 7 Acts.nil J22 hs19 g21 rfl rfl))
 intro _ hs23
 refine WL.nil (WC.cq rfl (fun h24 qh24 => ?_) (fun h24 qh24 => ?_))
 ·refine WC.region (WL.cl Try.call24 rfl (k22_ _ _ _ _) ?_)
  rintro _ whs25 ⟨r0_26, L0_27, rfl, hs25, ho28, hd0_29⟩
  replace hs25 := hs23.callF hs25
  refine ⟨_, rfl, ?_⟩
  replace hs25 := St.back [_, _, _] hs25
  have hm1 : Small r0_26.dat := by rw [hd0_29]; exact Small.new (by decide) (by decide) (by decide)
  have hsm1 : smScr 549755813888 r0_26.dat := fine_smB hm1.fine (by decide)
  refine WL.r 3 hs25 [] rfl (WL.st tbk hs25 0 rfl rfl (fun _ hs30 => WL.nil (hK20 _ _ (WC.sr (WL.r 1 hs30 [0] rfl (WL.st tbk hs30 2 rfl rfl (fun _ hs31 => WL.nil ?_)))))))
  refine WC.ret (retV1 rfl (resV.cellA tbk hs31 2 rfl rfl rfl rfl) (⟨r0_26, _, rfl, (St.keep1 (hs31.fr L0_27)), ho28, ?_⟩))
  · first | exact hm1 | exact hm0
 refine WC.skip (hK20 _ _ (WC.sr (WL.r 1 hs23 [0] rfl (WL.st tbk hs23 2 rfl rfl (fun _ hs32 => WL.nil (WC.ret (retV1 rfl (resV.cellA tbk hs32 2 rfl rfl rfl rfl) ?_)))))))
 refine ⟨r8, _, rfl, (St.keep1 (hs32.fr L9)), ho12, ?_⟩
 · first | exact hm1 | exact hm0
set_option maxHeartbeats 4000000 in
theorem k114_ (A_s : Option Addr) (n_s c_s : Nat) (s : List UInt8) (w : World) (f_s : SlF encB w A_s n_s s) :
    Calls Try.prog 4 #[.slice A_s n_s c_s] w fun e w' => e = .returned (.bool true) ∧ St w [] [] w' := by
 have hbl := f_s.len
 refine enter 94 Try.func4 rfl Try.ntmps4 rfl rfl ?_
 have hs1 := St.init w
 refine WC.r1 hs1 [] rfl (WC.seq (fun K2 hK2 => WC.r1 hs1 [] rfl ?_))
 refine WC.cq rfl (fun h3 qh3 => ?_) (fun h3 qh3 => ?_)
 ·refine WC.r1 hs1 [] rfl (WC.ret (tkR ?_))
  clear hK2
  refine retV1 rfl (resV.tmp rfl) (⟨rfl, hs1.nil⟩)
 have hn : n_s ≤ 1048576 := by have h9 := h3; simp at h9; omega
 refine WC.skip (hK2 _ _ (WC.sr (WL.r 1 hs1 [] rfl ?_)))
 refine WL.cl Try.call6 rfl (k113_ _ _ _ _ _ (SlF.st0 f_s hs1) ?_) ?_
 · first | assumption | rfl | omega | (show 1 ≤ _; omega) | (simp; done)
 rintro _ whs4 ⟨r5, L1_6, rfl, hs4, ho7, hm8⟩
 replace hs4 := hs1.callF hs4
 refine ⟨_, rfl, ?_⟩
 have hms := hm8
 have hfs := hms.fine
 have hf0 : ScrFine ({ r5.dat with OnAlt := false } : ScrD) := (hms.alt (b := false)).fine
 have hBs0 : smScr 549755813888 r5.dat := fine_smB hfs (by decide)
 have hMs0 : smScr 1048576 r5.dat := fine_smB hfs (by decide)
 have hBs1 : smScr 549755813888 ({ r5.dat with OnAlt := false } : ScrD) := fine_smB hf0 (by decide)
 have hMs1 : smScr 1048576 ({ r5.dat with OnAlt := false } : ScrD) := fine_smB hf0 (by decide)
 have hbs := isSize_bnd hfs.size
 simp only [ScrR.dat] at hbs
 refine WL.al hs4 Try.zeroValue31 rfl rfl (fun b9 _ hs10 => WL.st tbk hs10 0 rfl rfl (fun _ hs11 => WL.nil (WC.sr (WL.r 1 hs11 [] rfl (WL.st tbk hs11 0 rfl rfl (fun _ hs12 => WL.nil (WC.sr ?_)))))))
 refine WL.r 1 hs12 [] rfl (WL.cl Try.call12 rfl (k111_ _ _ _ _ _ (SlF.st0 f_s hs12) ?_) ?_)
 · first | assumption | rfl | omega | (show 1 ≤ _; omega) | (simp; done)
 rintro _ whs13 ⟨A14, c15, zs16, L1_17, rfl, hs13, ho18, hzl19, hzs20⟩
 replace hs13 := hs12.callF hs13
 refine ⟨_, rfl, ?_⟩
 replace hs13 := St.back [_] hs13
 have hzl := hzl19
 have hzs := hzs20
 refine WL.r 1 hs13 [] rfl (WL.nil (WC.sr (WL.r 1 hs13 [0] rfl (WL.buildF (F := encI) hs13 ([1049]) Try.runUnderlying28 Try.sizeOf3 Try.zeroValue3 rfl rfl rfl rfl rfl rfl rfl rfl rfl rfl rfl rfl (fun A24 c25 L21 whs22 hs22 ho23 => ?_)))))
 replace hs22 := St.back [_] hs22
 have hk27 := (ownScrR.ok (B := 549755813888) ho7 (hs22.ow L1_6) (by assumption))
 have hk28 := (ownScrR.ok (B := 549755813888) ho7 (hs22.ow L1_6) (by assumption))
 refine WL.cl Try.call13 rfl (k87_ (⟨r5.W, r5.H, ⟨r5.Main.W, r5.Main.H, r5.Main.Cells⟩, ⟨r5.Alt.W, r5.Alt.H, r5.Alt.Cells⟩, false, r5.X, r5.Y, r5.Wrap, ⟨r5.A.Fg, r5.A.Bg, r5.A.Bold, r5.A.Under, r5.A.Turn⟩, r5.Top, r5.Bot, r5.NoWrap, r5.Hide, r5.SaveX, r5.SaveY, ⟨r5.SaveA.Fg, r5.SaveA.Bg, r5.SaveA.Bold, r5.SaveA.Under, r5.SaveA.Turn⟩, r5.Tabs, r5.Limit, r5.Back⟩ : ScrR) _ _ _ _ _ _ _ ⟨⟨hk27.Main.Cells, hk27.Main.Cells_c, hk27.Main.Cells_n⟩, ⟨hk27.Alt.Cells, hk27.Alt.Cells_c, hk27.Alt.Cells_n⟩, hk27.Tabs, hk27.Tabs_c, hk27.Tabs_n, hk27.Back, hk27.Back_c, hk27.Back_n⟩ (SlF.ofOwn ho23 (hs22.ow L21)) ?_ ?_) ?_
 iterate 2 first | assumption | omega | (show 1 ≤ _; omega) | (simp; done)
 rintro _ whs26 ⟨r29, L1_30, rfl, hs26, ho31, hd32⟩
 replace hs26 := hs22.callF hs26
 refine ⟨_, rfl, ?_⟩
 replace hs26 := St.back [_] hs26
 obtain ⟨ha0, hsh0⟩ := alt_on hf0 rfl
 have hA : OnA ({ r5.dat with OnAlt := false } : ScrD) r29.dat := by rw [hd32]; exact ha0
 have hsh1 : shownD r29.dat = gridNew r5.W r5.H := by rw [hd32]; exact hsh0
 have hon : r29.OnAlt = true := hA.on
 have hok1 : scrOk r29.dat = true := hA.fine.ok
 have hBs2 : smScr 549755813888 r29.dat := fine_smB hA.fine (by decide)
 have hMs2 : smScr 1048576 r29.dat := fine_smB hA.fine (by decide)
 have hGs : smGrid 549755813888 (shownD r29.dat) := shown_sm hBs2
 have hBs2r := hBs2
 rw [hd32] at hBs2r
 refine WL.al hs26 Try.zeroValue31 rfl rfl (fun b33 _ hs34 => WL.st tbk hs34 0 rfl rfl (fun _ hs35 => WL.nil (WC.sr (WL.r 4 hs35 [1, 1] rfl (WL.cl Try.call14 rfl (k20_ _ _ _) ?_)))))
 rintro _ whs36 ⟨r0_37, L0_38, rfl, hs36, ho39, hd0_40⟩
 replace hs36 := hs35.callF hs36
 refine ⟨_, rfl, ?_⟩
 replace hs36 := St.back [_, _] hs36
 have hbl0 : r0_37.dat = gridNew r5.W r5.H := hd0_40.trans (by unfold gridRes; rw [if_pos (show isSize r5.W r5.H = true from hfs.size)])
 have hGb : smGrid 549755813888 r0_37.dat := by rw [hbl0, ← hsh1]; exact hGs
 have hGbr := hGb
 rw [hd0_40] at hGbr
 refine WL.r 3 hs36 [] rfl (WL.al hs36 Try.zeroValue25 rfl rfl (fun b41 _ hs42 => WL.st tbk hs42 0 rfl rfl (fun _ hs43 => WL.r 1 hs43 [] rfl (WL.nil (WC.seq (fun K44 hK44 => WC.seq (fun K45 hK45 => WC.rH hs43 hs43 (fun _ hs46 => ?_))))))))
 refine WH.rn [0, 1, 2, 3] hs46 [1] rfl rfl (WH.split 32 rfl (fun g47 => ?_) (fun g47 => ?_))
 · exfalso; revert g47; simp [hon]; done
 refine WH.rnA (Acts.nil.cons (j := 3) rfl g47) [4, 6] hs46 [1, 0] rfl rfl (WH.o1 5 rfl ?_)
 refine WL.call (wantF rfl g47) rfl rfl (Run.call Try.call10 rfl rfl rfl) (k51_ r29 _ (ownScrR.ok (B := 549755813888) ho31 (hs46.ow L1_30) (by rw [hd32]; assumption)) ?_ ?_) ?_
 iterate 2 first | assumption | rfl | omega | (show 1 ≤ _; omega) | (simp; done)
 rintro _ whs48 ⟨r49, L1_50, rfl, hs48, ho51, hd52⟩
 replace hs48 := hs46.callF hs48
 refine ⟨_, rfl, ?_⟩
 replace hs48 := St.back [_, _, _] hs48
 have hGg : smGrid 1099511627776 r49.dat := by rw [hd52]; exact Nat.le_trans hGs (by decide)
 refine WL.nil ⟨(hs48.rm L1_50), WH.o1 7 rfl ?_⟩
 refine WL.call (wantF rfl g47) rfl rfl (Run.call Try.call9 rfl rfl rfl) (k46_ r49 r0_37 _ (ownGridR.ok (B := 549755813888) ho51 (hs48.ow L1_50) (by rw [hd52]; assumption)) (ownGridR.ok (B := 549755813888) ho39 (hs48.ow L0_38) (by rw [hd0_40]; assumption)) ?_) ?_
 · first | assumption | rfl | omega | (show 1 ≤ _; omega) | (simp; done)
 rintro _ whs53 ⟨rfl, hs53⟩
 replace hs53 := hs48.call0 hs53
 refine ⟨_, rfl, ?_⟩
 have q1 : sameG r49.dat r0_37.dat = true := sameG_self (hd52.trans (hsh1.trans hbl0.symm))
 refine WL.nil ⟨(hs53.rm L1_50), WH.rnA (Acts.nil.cons (j := 3) rfl g47) [8] (hs53.rm L1_50) [] rfl rfl ?_⟩
 refine WH.take 9 rfl (by kernel_rfl) rfl rfl rfl (hs53.rm L1_50) (fun w_ hs_ => (Run.pick rfl rfl rfl rfl)) ?_
 refine WH.dn (hK45 _ _ ?_)
 refine WC.cq rfl (fun h54 qh54 => ?_) (fun h54 qh54 => ?_)
 ·exfalso; have h9 := h54; simp [hon, q1] at h9
 refine WC.skip (hK44 _ _ (WC.seq (fun K55 hK55 => WC.r1 hs53 [] rfl (WC.block ?_))))
 have hM60 := (St.grp1 (L1 := L1_30) [_] (((((((((hs53.fr L1_6).fr L1_17).fr L21).fr L0_38).fr L1_50).fb b9).fb b41).fr L1_30).fb b33))
 refine WC.lV [2, 3, 5, 12, 38, 39, 40] rfl hM60 (fun k_ (a_ : Hp) f => ∃ (i : Nat) (r : ScrR) (L58 : Hp), k_ = zs16.length - i ∧ a_ = [(b33, .cells (List.toArray [i64 r.W, i64 r.H, i64 r.Main.W, i64 r.Main.H, .slice r.Main.Cells.A r.Main.Cells.n r.Main.Cells.c, i64 r.Alt.W, i64 r.Alt.H, .slice r.Alt.Cells.A r.Alt.Cells.n r.Alt.Cells.c, .bool r.OnAlt, i64 r.X, i64 r.Y, .bool r.Wrap, i64 r.A.Fg, i64 r.A.Bg, .bool r.A.Bold, .bool r.A.Under, .bool r.A.Turn, i64 r.Top, i64 r.Bot, .bool r.NoWrap, .bool r.Hide, i64 r.SaveX, i64 r.SaveY, i64 r.SaveA.Fg, i64 r.SaveA.Bg, .bool r.SaveA.Bold, .bool r.SaveA.Under, .bool r.SaveA.Turn, .slice r.Tabs.A r.Tabs.n r.Tabs.c, i64 r.Limit, .slice r.Back.A r.Back.n r.Back.c]) 31 (0, 0))] ++ L58 ∧ (i ≤ zs16.length) ∧ (OnA ({ r5.dat with OnAlt := false } : ScrD) r.dat) ∧ ownScrR r L58 ∧ Sub [(41, .int .i64 i)] f) (((fun (i : Nat) => zs16.length - i) (0))) ?_ ?_
 ·refine ⟨0, r29, L1_30, rfl, rfl, ?_, ?_, ho31, ⟨rfl, trivial⟩⟩
  · exact Nat.zero_le _
  · exact hA
 rintro _ _ f w ⟨i, r, L58, rfl, rfl, p0, p1, ho59, hG⟩ hF hs61
 refine WC.sub _ (hG.app hF) ?_
 clear hG hF
 replace hs61 := St.ungrp1 [_] hs61
 have hs62 := (((hs61.fb b9).fb b41).fb b33)
 have hsmr : smScr 549755813888 r.dat := fine_smB p1.fine (by decide)
 have hsm1 : smScr 1048576 r.dat := fine_smB p1.fine (by decide)
 refine WC.r1 hs62 [] rfl (WC.seq (fun K63 hK63 => ?_))
 refine WC.cq rfl (fun h64 qh64 => ?_) (fun h64 qh64 => ?_)
 ·have hil : i < zs16.length := by have h9 := h64; simp at h9; omega
  refine WC.skip (hK63 _ _ (WC.seq (fun K65 hK65 => WC.block (WC.sr ?_))))
  refine WL.val rfl rfl rfl (Run.idxK (i) Try.runUnderlying28 Try.sizeOf3 rfl rfl rfl ?_ ?_ ?_) ?_
  · exact SlF.some_ (SlF.ofOwn ho18 (hs62.ow L1_17))
  · omega
  · omega
  refine WL.val rfl rfl rfl (Run.load Try.isAgg3 rfl rfl (SlF.one1 (SlF.ofOwn ho18 (hs62.ow L1_17)) ?_ rfl)) ?_
  · omega
  refine WL.r 1 hs62 [] rfl (WL.nil (WC.sr (WL.r 2 hs62 [0] rfl (WL.cl Try.call15 rfl (k93_ r _ _ (ownScrR.ok (B := 549755813888) ho59 (hs62.ow L58) hsmr) ?_) ?_))))
  · first | assumption | rfl | omega | (show 1 ≤ _; omega) | (simp; done)
  rintro _ whs66 ⟨r67, L1_68, rfl, hs66, ho69, hd70⟩
  replace hs66 := hs62.callF hs66
  refine ⟨_, rfl, ?_⟩
  replace hs66 := St.back [_, _, _] hs66
  have hA2 : OnA ({ r5.dat with OnAlt := false } : ScrD) r67.dat := by rw [hd70]; exact p1.rune
  have hBs4 : smScr 549755813888 r67.dat := fine_smB hA2.fine (by decide)
  have hMs4 : smScr 1048576 r67.dat := fine_smB hA2.fine (by decide)
  have hBs4r := hBs4
  rw [hd70] at hBs4r
  refine WL.st tbk hs66 0 rfl rfl (fun _ hs71 => WL.nil (WC.region (WL.r 1 hs71 [0] rfl ?_)))
  refine WL.cl Try.call16 rfl (k96_ r67 _ (ownScrR.ok (B := 549755813888) ho69 (hs71.ow L1_68) (by rw [hd70]; assumption)) ?_) ?_
  · first | assumption | rfl | omega | (show 1 ≤ _; omega) | (simp; done)
  rintro _ whs72 ⟨r73, L1_74, rfl, hs72, ho75, hd76⟩
  replace hs72 := hs71.callF hs72
  refine ⟨_, rfl, ?_⟩
  replace hs72 := St.back [_, _, _] hs72
  have hA3 : OnA ({ r5.dat with OnAlt := false } : ScrD) r73.dat := by rw [hd76]; exact hA2.down
  have hBs5 : smScr 549755813888 r73.dat := fine_smB hA3.fine (by decide)
  have hMs5 : smScr 1048576 r73.dat := fine_smB hA3.fine (by decide)
  have hBs5r := hBs5
  rw [hd76] at hBs5r
  refine WL.st tbk hs72 0 rfl rfl (fun _ hs77 => WL.nil (hK65 _ _ (WC.region (WL.r 2 hs77 [] rfl (WL.nil (tkN ?_))))))
  replace hs77 := ((hs77.rm L1_68).rm L58)
  have hF78 := (St.grp1 (L1 := L1_74) [_] (((((((((hs77.fr L1_6).fr L1_17).fr L21).fr L0_38).fr L1_50).fb b9).fb b41).fr L1_74).fb b33))
  refine ⟨sbF rfl, _, hF78, _, ?_, i + 1, r73, L1_74, rfl, rfl, ?_, ?_, ho75, ⟨rfl, trivial⟩⟩
  · omega
  · omega
  · exact hA3
 refine WC.exit (hK55 _ _ (WC.sr (WL.r 1 hs62 [0] rfl (WL.buildF (F := encI) hs62 ([1049]) Try.runUnderlying28 Try.sizeOf3 Try.zeroValue3 rfl rfl rfl rfl rfl rfl rfl rfl rfl rfl rfl rfl (fun A82 c83 L79 whs80 hs80 ho81 => ?_)))))
 replace hs80 := St.back [_, _, _] hs80
 refine WL.cl Try.call13 rfl (k87_ r _ _ _ _ _ _ _ (ownScrR.ok (B := 549755813888) ho59 (hs80.ow L58) hsmr) (SlF.ofOwn ho81 (hs80.ow L79)) ?_ ?_) ?_
 iterate 2 first | assumption | omega | (show 1 ≤ _; omega) | (simp; done)
 rintro _ whs84 ⟨r85, L1_86, rfl, hs84, ho87, hd88⟩
 replace hs84 := hs80.callF hs84
 refine ⟨_, rfl, ?_⟩
 replace hs84 := St.back [_, _, _] hs84
 obtain ⟨hf9, e1, e2, e3, e4, e5, e6⟩ := alt_off p1
 rw [← show r85.dat = _ from hd88] at hf9 e1 e2 e3 e4 e5 e6
 have hBs6 : smScr 549755813888 r85.dat := fine_smB hf9 (by decide)
 have hMs6 : smScr 1048576 r85.dat := fine_smB hf9 (by decide)
 have hBs6r := hBs6
 rw [hd88] at hBs6r
 have hG9 : smGrid 1099511627776 r85.Main.dat := Nat.le_trans hBs6.1 (by decide)
 have q2 : sameG r85.Main.dat r5.Main.dat = true := sameG_self e1
 have e2 : r85.X = r5.X := e2
 have e3 : r85.Y = r5.Y := e3
 have e4 : r85.A = r5.A := e4
 have e5 : r85.OnAlt = false := e5
 have e7 := congrArg List.length e6
 simp only [ScrR.dat, List.length_map] at e7
 have q3 : (r85.Back.n : Int) = r5.Back.n := by have h8 := ownScrR.len ‹ownScrR r85 _›; have h9 := ownScrR.len ‹ownScrR r5 _›; omega
 refine WL.st tbk hs84 0 rfl rfl (fun _ hs89 => WL.nil (WC.sr (WL.r 4 hs89 [0, 2] rfl ?_)))
 refine WL.cl Try.call9 rfl (k46_ r85.Main r5.Main _ (ownScrR.ok (B := 549755813888) ho87 (hs89.ow L1_86) (by rw [hd88]; assumption)).Main (ownScrR.ok (B := 549755813888) ho7 (hs89.ow L1_6) (by assumption)).Main ?_) ?_
 · first | assumption | rfl | omega | (show 1 ≤ _; omega) | (simp; done)
 rintro _ whs90 ⟨rfl, hs90⟩
 replace hs90 := hs89.call0 hs90
 refine ⟨_, rfl, WL.r 1 hs90 [] rfl (WL.pA tbk 5 Acts.nil hs90 [0, 2] rfl rfl rfl rfl (fun g_ => ⟨rfl, rfl, trivial⟩) (WL.r 1 hs90 [] rfl (WL.pA tbk 5 Acts.nil hs90 [0, 2] rfl rfl rfl rfl (fun g_ => ⟨rfl, rfl, trivial⟩) (WL.r 1 hs90 [] rfl ?_))))⟩
 apply WL.gA 5 Acts.nil hs90 rfl
 ·intro g91 J92
  have qg91 := g91
  try simp only [bf, within_iff, within_not] at qg91
  refine WL.runA tbk 4 (Acts.nil.cons (j := 19) rfl g91) hs90 [0, 2] rfl ⟨rfl, rfl, trivial⟩ (WL.val (wantT rfl g91) rfl rfl (Run.eqlA (eq_27 _ _) (by kernel_rfl) rfl rfl rfl) (WL.eA 5 Acts.nil J92 hs90 g91 rfl rfl))
 intro _ hs93
 refine WL.r 1 hs93 [] rfl (WL.pA tbk 3 Acts.nil hs93 [0] rfl rfl rfl rfl (fun g_ => ⟨rfl, trivial⟩) (WL.r 1 hs93 [] rfl (WL.pA tbk 7 Acts.nil hs93 [0, 2] rfl rfl rfl rfl (fun g_ => ⟨rfl, rfl, trivial⟩) (WL.r 1 hs93 [] rfl (WL.nil (WC.ret (retV1 rfl (resV.tmp rfl) ?_)))))))
 refine ⟨congrArg Ending.returned (congrArg Value.bool ?_), hs93.nil⟩
 simp [q2, e2, e3, e4, e5, q3]
open Go Go.RowKit Go.ChangeShapes Go.WideShapes Go.ChangeAt Go.Deep
section
variable {H : Type} {enc : TypeId × Value → H} {P : Program} {w : World} {base : Nat} {spare : Nat → Bool} {held : Bool} {fuel : Nat} {t e : TypeId} {cs : List Value} {x : DataW H × List MemPlace}
theorem open_SlB (ht : P.underlying t = some (.slice e)) (he : P.underlying e = some (.int .u8)) (hc : P.cellsOf e = 1) (h : DataW.trod enc P w base spare held fuel t cs = some x) :
  ∃ A n c xs, cs = [.slice A n c] ∧ SlB w A n xs ∧ n ≤ 9223372036854775807 := by
 rcases open_ints ht he hc h with ⟨rfl, _⟩ | ⟨a, l, c, zs, rfl, _, hl, hm, hz, _, hcell, hwz⟩
 ·exact ⟨none, 0, 0, [], rfl, ⟨rfl, SlR.nil _ _ _⟩, by omega⟩
 ·have hlz : l ≤ zs.length := by rw [hz]; split <;> omega
  refine ⟨some a, l, c, (zs.take l).map (fun z => UInt8.ofNat z.toNat), rfl, ⟨by simp; omega, ⟨by rw [rows_len]; simp [encB]; omega, fun _ => rfl, fun j v hv => ?_⟩⟩, by simp only [maxLen] at hm; omega⟩
  have hj : j < l := by
   have := (List.getElem?_eq_some_iff.1 hv).1
   simp [bytesV_len] at this; omega
  have hc1 := hcell j (by omega)
  have hw := hwz (zs.getD j 0) (by rw [List.getD_eq_getElem?_getD, List.getElem?_eq_getElem (show j < zs.length by omega)]; exact List.getElem_mem _)
  simp [Lit.wf, IntKind.min, IntKind.max, IntKind.signed, IntKind.bits] at hw
  show w.cell? (a.add j) = some v
  rw [hc1, ← hv]
  have hlt : j < zs.length := by omega
  have e1 : zs.getD j 0 = zs[j] := by rw [List.getD_eq_getElem?_getD, List.getElem?_eq_getElem hlt]; rfl
  rw [e1]
  simp only [List.getElem?_eq_getElem hlt, Option.getD_some] at hw
  simp [bytesV_map, hj, List.getElem?_eq_getElem hlt, UInt8.toNat_ofNat']
  omega
end
namespace fnAlt
open Go.ChangeShapes Go.WideShapes Go.ChangeAt Go.RowKit
theorem own : ownKnob Try.prog.godebug = none := by kernel_rfl
theorem laidOut : laidOutB Try.prog = true := by kernel_rfl
set_option maxRecDepth 100000 in
set_option maxHeartbeats 1000000 in
theorem lifted (os : Os) (started : os.Started) (H : Type) (enc : TypeId × Value → H) :
    ReturnsInHanded {} Try.checked os 4 .any (Rows.fnAltSpec.pre6 enc Try.prog Try.f4 Rows.fnAltRow.domain false) (Rows.fnAltSpec.post enc Try.prog Try.f4 false true false false) := by
  refine returnsInHanded_of_change (C := Try.checked) own started (by kernel_rfl) Try.func4
    (ChangeSpec.witness6 (enc := enc) (C := Try.checked) false ⟨#[], #[.slice none 0 0], []⟩ 8 (by kernel_rfl) (by kernel_rfl) (by kernel_rfl) (by kernel_rfl)) ?_
  intro W base args ds gs before hval0 hW hcnd _
  have hval : ∀ (j : Nat) t v, Try.f4.params[j]? = some t → args[j]? = some v → Value.okWide Try.prog W .any base t v := hval0
  have hW' := hW
  obtain ⟨p, q, hA0, hV, rfl, hfz, hnd⟩ := hW
  have hA : DataW.TrodAll enc Try.prog W 0 (fun _ => true) true Try.f4.params.toList args.toList ds p := hA0
  rw [Try.params4] at hA hval
  obtain ⟨v0, vs0, d0, ds0, p0, q0, hargs, rfl, rfl, h0, r0⟩ := trodAll_cons hA
  obtain ⟨rfl, rfl, rfl⟩ := trodAll_nil r0
  obtain rfl : args = #[v0] := by cases args; simp_all
  obtain ⟨rfl, rfl⟩ := trodVars_none hV
  have k0 := h0
  have lt0 : ∀ x ∈ p0, x.block < W.heap.size := by obtain ⟨m, hm⟩ := k0; exact DataW.trod_lt m _ _ _ hm
  obtain ⟨a0, l0, q0, rfl⟩ := okWide_slice Try.underlying22 (hval 0 22 v0 rfl rfl)
  obtain ⟨fuel0, hf0⟩ := h0
  replace hf0 : DataW.trod _ _ _ _ _ _ _ 22 [.slice a0 l0 q0] = _ := hf0
  obtain ⟨A_aS, n_aS, c_aS, aS, e0, f_aS, w_aS⟩ := open_SlB Try.underlying22 Try.underlying5 (by kernel_rfl) hf0
  obtain ⟨rfl, rfl, rfl⟩ : A_aS = a0 ∧ n_aS = l0 ∧ c_aS = q0 := by cases e0; exact ⟨rfl, rfl, rfl⟩
  clear hA0 hval0
  refine (k114_ A_aS n_aS c_aS aS W f_aS).mono fun e W' ⟨he, hst⟩ => ?_
  have bel := hst.toBelow
  subst he
  exact ⟨_, rfl, _, _, _, [], _, [], hW', trodAll_mk1 (shut_bool Try.underlying4 _), (trodAll_cons_mk (Below.trod laidOut (by kernel_rfl) (of_decide_eq_true (by kernel_rfl)) k0 bel lt0) trodAll_mk0), rfl, bel.frame _, fun h => by cases h⟩
theorem over : Rows.fnAltRow.holds Try.pinned (OpenSpec.ofChange Rows.fnAltSpec) :=
  OpenClaim.holds_of_wide 4 Try.f4 rfl rfl rfl rfl rfl rfl rfl ⟨rfl, rfl, rfl, rfl, rfl⟩ rfl rfl rfl rfl rfl (by kernel_rfl) Try.func4 (by kernel_rfl)
    (of_decide_eq_true (by kernel_rfl)) (by unfold Func.isWrapper; first | (rw [if_pos (by decide +kernel)]; kernel_rfl) | (rw [if_neg (by decide +kernel)]; exact ⟨rfl, rfl⟩))
    (fun os started H enc _ => lifted os started H enc)
end fnAlt
theorem fnAlt_holds : Rows.FnAltSaid := fnAlt.over
end Go.Proofs.Ytjmegoiclgancaa
