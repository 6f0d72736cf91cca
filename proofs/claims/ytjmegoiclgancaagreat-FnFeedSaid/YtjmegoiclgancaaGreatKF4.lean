/-
  What the proof stands on, part 4.
-/
import Derived.Test.YtjmegoiclgancaaGreatKF3
namespace Go.Proofs.YtjmegoiclgancaaGreat
open Go Go.RowKit
set_option linter.unusedVariables false
set_option linter.unusedSimpArgs false
theorem k54_ (s : ScrR) (L_s : Hp) (n : Int) (w : World) (o_s : ownScrR s L_s) (h_s : Hh w L_s) (hd_ : ((L_s).map (·.1)).Nodup) (hf : ScrFine s.dat) (hn : 0 ≤ n ∧ n ≤ 100000) (hsmB : smScr 549755813888 s.dat) :
    Calls Tryz.prog 183 #[.agg (cScr s).toArray, i64 n] w fun e w' => ∃ r L1, e = .returned (.agg (cScr r).toArray) ∧ St w ((L_s).map (·.1)) L1 w' ∧ ownScrR r L1 ∧ r.dat = rollUpD s.dat n := by
 have hok9 := hf.ok
 obtain ⟨hb1, hb2, hb3, hb4, hb5, hb6⟩ := scrOk_bnd hok9
 obtain ⟨hm, hma⟩ := scrOk_main hok9
 simp only [ScrR.dat, GridR.dat, List.length_map] at hb1 hb2 hb3 hb4 hb5 hb6
 refine enter 43 Tryz.func183 rfl Tryz.ntmps183 rfl rfl ?_
 have hs1 := St.takes1 w L_s h_s hd_
 refine WC.sr (WL.bx hs1 rfl (fun b2 _ hs3 => WL.al hs3 Tryz.zeroValue33 rfl rfl (fun b4 _ hs5 => WL.nil (WC.seq (fun K6 hK6 => WC.r1 hs5 [] rfl (WC.block ?_))))))
 have hM11 := (St.grp1 (L1 := L_s) [_] ((hs5.fr L_s).fb b2))
 refine WC.lV [1, 2, 4] rfl hM11 (fun k_ (a_ : Hp) f => ∃ (i : Nat) (r : ScrR) (L9 : Hp), k_ = (min n (s.Bot + 1)).toNat - i ∧ a_ = [(b2, .cells (List.toArray (cScr r)) 33 (0, 0))] ++ L9 ∧ ((i : Int) ≤ min n (s.Bot + 1)) ∧ (r.dat = keepRows s.dat i) ∧ (¬ (s.OnAlt = false ∧ s.Top = 0) → i = 0) ∧ ownScrR r L9 ∧ Sub [(5, .int .i64 i)] f) (((fun (i : Nat) => (min n (s.Bot + 1)).toNat - i) (0))) ?_ ?_
 ·refine ⟨0, s, L_s, rfl, rfl, ?_, ?_, ?_, o_s, ⟨rfl, trivial⟩⟩
  · omega
  · rw [keepRows_zero (by show ((s.Back.xs.map RowR.dat).length : Int) ≤ s.Limit; rw [List.length_map]; omega)]
  · exact fun _ => rfl
 rintro _ _ f w ⟨i, r, L9, rfl, rfl, p0, p1, p2, ho10, hG⟩ hF hs12
 refine WC.sub _ (hG.app hF) ?_
 clear hG hF
 replace hs12 := St.ungrp1 [_] hs12
 have hs13 := ((hs12.fb b4).fb b2)
 have hsmr : smScr 549755813888 r.dat := by rw [p1]; exact keepRows_sm hsmB hm (by decide) (by show s.Limit.toNat ≤ _; omega)
 have hrM : r.Main.dat = s.Main.dat := congrArg ScrD.Main p1
 have hrW : r.W = s.W := congrArg ScrD.W p1
 have hrL : r.Limit = s.Limit := congrArg ScrD.Limit p1
 have hrH : r.Main.H = s.Main.H := congrArg GridD.H hrM
 have hrV : r.Main.W = s.Main.W := congrArg GridD.W hrM
 have hrT : r.Top = s.Top := congrArg ScrD.Top p1
 have hrb : r.Bot = s.Bot := congrArg ScrD.Bot p1
 have hrO : r.OnAlt = s.OnAlt := congrArg ScrD.OnAlt p1
 have hrB : (r.Back.xs.length : Int) ≤ s.Limit := by have h9 := congrArg (fun d : ScrD => d.Back.length) p1; simp only [ScrR.dat, keepRows, lastN_len, List.length_map] at h9; omega
 refine WC.seq (fun K14 hK14 => WC.sr (WL.r 4 hs13 [] rfl ?_))
 refine WL.pA tbk 7 Acts.nil hs13 [0, 0] rfl rfl rfl rfl (fun g_ => by (try simp only [bf, within_iff, within_not] at g_); exact ⟨by omega, rfl, rfl, trivial⟩) (WL.r 1 hs13 [] rfl (WL.pA tbk 3 Acts.nil hs13 [0] rfl rfl rfl rfl (fun g_ => ⟨rfl, trivial⟩) (WL.r 1 hs13 [] rfl (WL.pA tbk 3 Acts.nil hs13 [0] rfl rfl rfl rfl (fun g_ => ⟨rfl, trivial⟩) (WL.nil (WC.cq rfl (fun h15 qh15 => ?_) (fun h15 qh15 => ?_)))))))
 ·have hc : s.OnAlt = false ∧ s.Top = 0 := by have h9 := h15; rw [hrO, hrT, hrb] at h9; simp at h9; exact ⟨h9.1.2, h9.2⟩
  have hlt : (i : Int) < min n (s.Bot + 1) := by have h9 := h15; rw [hrO, hrT, hrb] at h9; simp at h9; omega
  refine WC.skip (hK14 _ _ (WC.seq (fun K16 hK16 => WC.block (WC.region (WL.r 2 hs13 [0] rfl ?_)))))
  refine WL.cl Tryz.call231 rfl (k53_ r _ _ _ ho10 (hs13.ow L9) (St.nodupL (hs13.fr L9)) ?_ ?_ ?_ ?_ ?_ ?_) ?_
  iterate 6 first | assumption | rfl | omega | (rw [hrM]; assumption)
  rintro _ whs17 ⟨r18, L1_19, rfl, hs17, ho20, hd21⟩
  replace hs17 := St.lend (hs13.fr L9) hs17
  refine ⟨_, rfl, ?_⟩
  replace hs17 := St.back [_, _] hs17
  refine WL.st tbk hs17 0 rfl rfl (fun _ hs22 => WL.nil (hK16 _ _ (WC.region (WL.r 3 hs22 [] rfl (WL.nil (tkN ?_))))))
  have hF23 := (St.grp1 (L1 := L1_19) [_] (((hs22.fb b4).fr L1_19).fb b2))
  refine ⟨sbF rfl, _, hF23, _, ?_, i + 1, r18, L1_19, rfl, rfl, ?_, ?_, ?_, ho20, ⟨rfl, trivial⟩⟩
  · omega
  · omega
  · rw [hd21, p1]; exact keepOne_succ
  · intro h9; exact absurd hc h9
 have h1 : r.dat = keepD s.dat n := by
   unfold keepD
   by_cases hc : s.OnAlt = false ∧ s.Top = 0
   · rw [if_pos (show s.dat.OnAlt = false ∧ s.dat.Top = 0 from hc), p1]
     have h9 := h15
     rw [hrO, hrT, hrb, hc.1, hc.2] at h9
     simp at h9
     have e9 : i = (min n (s.dat.Bot + 1)).toNat := by show i = (min n (s.Bot + 1)).toNat; omega
     rw [e9]
   · rw [if_neg (show ¬ (s.dat.OnAlt = false ∧ s.dat.Top = 0) from hc), p1, p2 hc]
     exact keepRows_zero (by show ((s.Back.xs.map RowR.dat).length : Int) ≤ s.Limit; rw [List.length_map]; omega)
 have hfr : ScrFine r.dat := by rw [h1]; exact hf.keep
 have hgs : gridOk (shownR r).dat = true := by rw [shownR_dat]; exact hfr.shown.1
 have hts : 0 ≤ r.Top ∧ r.Top ≤ r.Bot ∧ r.Bot < (shownR r).H := by have h9 : (shownR r).H = (shownD r.dat).H := congrArg GridD.H shownR_dat; rw [h9, hfr.shown.2.2]; exact ⟨hfr.reg.1.1, hfr.reg.1.2, hfr.reg.2.1⟩
 refine WC.exit (hK6 _ _ (WC.seq (fun K24 hK24 => WC.rG 10 ((hs13.fb b4).d1.rm L9) (hs13.rm L9) hs13 (fun _ hs25 => ?_))))
 refine WG.rn [0, 1, 3, 4, 5, 6, 7] (hs25.rm L9) [0, 0, 0, 0] rfl rfl (WG.o1 2 rfl rfl (WL.cl Tryz.call145 rfl (k50_ r _ (ownScrR.ok (B := 549755813888) ho10 (hs25.ow L9) hsmr)) ?_))
 rintro _ whs26 ⟨rfl, hs26⟩
 replace hs26 := hs25.call0 hs26
 refine ⟨_, rfl, WL.nil ⟨(hs26.rm L9), WG.o1 8 rfl rfl (WL.cl Tryz.call144 rfl (k49_ (shownR r) _ _ _ _ (okScrR.shown (ownScrR.ok (B := 549755813888) ho10 (hs26.ow L9) hsmr)) ?_ ?_ ?_) ?_)⟩⟩
 iterate 3 first | assumption | rfl | omega | (rw [hrM]; assumption)
 rintro _ whs27 ⟨r28, L1_29, rfl, hs27, ho30, hd31⟩
 replace hs27 := hs26.callF hs27
 refine ⟨_, rfl, ?_⟩
 replace hs27 := St.back [_, _] hs27
 have hgr := hd31
 refine WL.nil ⟨((hs27.rm L1_29).rm L9), WG.o1 9 rfl rfl (WL.cl Tryz.call143 rfl (k51_ r _ r28 _ _ ho10 (hs27.ow L9) ho30 (hs27.ow L1_29) (St.nodupL (St.grp2 (L1 := L9) (L2 := L1_29) [] ((hs27.fr L1_29).fr L9)))) ?_)⟩
 rintro _ whs32 ⟨r33, L1_34, rfl, hs32, ho35, hd36⟩
 replace hs32 := St.lend (St.grp2 (L1 := L9) (L2 := L1_29) [] ((hs27.fr L1_29).fr L9)) hs32
 refine ⟨_, rfl, ?_⟩
 replace hs32 := St.back [_, _] hs32
 refine WL.nil ⟨(hs32.rm L1_34), WG.oK rfl (WL.st tbk hs32 1 rfl rfl (fun _ hs37 => WL.nil ⟨((hs37.fb b4).d1.rm L1_34), WH.dn (hK24 _ _ (WC.ret (retV1 rfl (resV.cellA tbk hs37 1 rfl rfl rfl rfl) ?_)))⟩))⟩
 refine ⟨r33, _, rfl, (St.keep1 (hs37.fr L1_34)), ?_, ?_⟩
 · exact ho35
 · refine hd36.trans ?_; rw [hgr, shownR_dat]; show putD r.dat (gRoll (shownD r.dat) r.Top r.Bot n) = _; rw [hrT, hrb, h1]; rfl
theorem k55_ (s : ScrR) (L_s : Hp) (w : World) (o_s : ownScrR s L_s) (h_s : Hh w L_s) (hd_ : ((L_s).map (·.1)).Nodup) (hf : ScrFine s.dat) (hsmB : smScr 549755813888 s.dat) :
    Calls Tryz.prog 142 #[.agg (cScr s).toArray] w fun e w' => ∃ r L1, e = .returned (.agg (cScr r).toArray) ∧ St w ((L_s).map (·.1)) L1 w' ∧ ownScrR r L1 ∧ r.dat = downD s.dat := by
 have hok9 := hf.ok
 obtain ⟨hb1, hb2, hb3, hb4, hb5, hb6⟩ := scrOk_bnd hok9
 obtain ⟨hm, hma⟩ := scrOk_main hok9
 simp only [ScrR.dat, GridR.dat, List.length_map] at hb1 hb2 hb3 hb4 hb5 hb6
 have hfw : ScrFine (wrapD s.dat false) := hf.wrap0
 refine enter 22 Tryz.func142 rfl Tryz.ntmps142 rfl rfl ?_
 have hs1 := St.takes1 w L_s h_s hd_
 refine WC.sr (WL.bx hs1 rfl (fun b2 _ hs3 => WL.al hs3 Tryz.zeroValue33 rfl rfl (fun b4 _ hs5 => WL.nil (WC.sr (WL.r 1 hs5 [] rfl (WL.st tbk hs5 1 rfl rfl (fun _ hs6 => WL.nil ?_)))))))
 refine WC.seq (fun K7 hK7 => WC.r1 hs6 [1, 1] rfl ?_)
 refine WC.cq rfl (fun h8 qh8 => ?_) (fun h8 qh8 => ?_)
 ·have e1 : s.dat.Y = s.dat.Bot := by show s.Y = s.Bot; have h9 := h8; simpa using h9
  refine WC.sr (WL.r 1 hs6 [1] rfl ?_)
  obtain ⟨L9, L10, L11, L12, hs17, ho13, ho14, ho15, ho16⟩ := ownScrR.op hs6 o_s
  have hs18 := ((hs17.fb b2).fb b4)
  obtain ⟨L20, hs19, ho21⟩ := ownScrR.fl hs18 ho13 ho14 ho15 ho16
  have hs22 := ((hs19.fb b2).fb b4)
  refine WL.cl Tryz.call183 rfl (k54_ ⟨s.W, s.H, ⟨s.Main.W, s.Main.H, SlD.of ho13⟩, ⟨s.Alt.W, s.Alt.H, SlD.of ho14⟩, s.OnAlt, s.X, s.Y, false, ⟨s.A.Fg, s.A.Bg, s.A.Bold, s.A.Under, s.A.Turn⟩, s.Top, s.Bot, s.NoWrap, s.Hide, s.SaveX, s.SaveY, ⟨s.SaveA.Fg, s.SaveA.Bg, s.SaveA.Bold, s.SaveA.Under, s.SaveA.Turn⟩, SlD.of ho15, s.Limit, SlD.ofN ho16⟩ _ _ _ (by exact ho21) (hs22.ow L20) (St.nodupL (hs22.fr L20)) ?_ ?_ ?_) ?_
  iterate 3 first | assumption | rfl | omega | exact hfw
  rintro _ whs23 ⟨r24, L1_25, rfl, hs23, ho26, hd27⟩
  replace hs23 := St.lend (hs22.fr L20) hs23
  refine ⟨_, rfl, ?_⟩
  replace hs23 := St.back [_, _] hs23
  have hd3 := hd27
  refine WL.st tbk hs23 0 rfl rfl (fun _ hs28 => WL.nil (WC.ret (tkR ?_)))
  clear hK7
  refine retV1 rfl (resV.cellA tbk hs28 0 rfl rfl rfl rfl) (⟨r24, _, rfl, (St.keep1 (hs28.fr L1_25)), ?_, ?_⟩)
  · exact ho26
  · unfold downD; first | (rw [if_pos e1, ← rollUp_wrap]; exact hd27) | (rw [if_neg e1, if_pos e2]; rfl) | (rw [if_neg e1, if_neg e2]; rfl)
 have e1 : ¬ s.dat.Y = s.dat.Bot := by show ¬ s.Y = s.Bot; have h9 := h8; simpa using h9
 refine WC.skip (hK7 _ _ (WC.seq (fun K29 hK29 => WC.r1 hs6 [1, 1] rfl ?_)))
 refine WC.cq rfl (fun h30 qh30 => ?_) (fun h30 qh30 => ?_)
 ·have e2 : s.dat.Y < s.dat.H - 1 := by show s.Y < s.H - 1; have h9 := h30; simpa using h9
  refine WC.region (WL.r 4 hs6 [1] rfl (WL.st tbk hs6 1 rfl rfl (fun _ hs31 => WL.nil (hK29 _ _ (WC.sr (WL.r 1 hs31 [1] rfl (WL.st tbk hs31 0 rfl rfl (fun _ hs32 => ?_))))))))
  refine WL.nil (WC.ret (retV1 rfl (resV.cellA tbk hs32 0 rfl rfl rfl rfl) ?_))
  obtain ⟨L33, L34, L35, L36, hs41, ho37, ho38, ho39, ho40⟩ := ownScrR.op hs32 o_s
  have hs42 := ((hs41.fb b2).fb b4)
  obtain ⟨L44, hs43, ho45⟩ := ownScrR.fl hs42 ho37 ho38 ho39 ho40
  have hs46 := ((hs43.fb b2).fb b4)
  refine ownScrR.ret rfl (St.keep1 (hs46.fr L44)) ho45 ?_
  · unfold downD; first | (rw [if_pos e1, ← rollUp_wrap]; exact rfl) | (rw [if_neg e1, if_pos e2]; rfl) | (rw [if_neg e1, if_neg e2]; rfl)
 have e2 : ¬ s.dat.Y < s.dat.H - 1 := by show ¬ s.Y < s.H - 1; have h9 := h30; simpa using h9
 refine WC.skip (hK29 _ _ (WC.sr (WL.r 1 hs6 [1] rfl (WL.st tbk hs6 0 rfl rfl (fun _ hs47 => WL.nil (WC.ret (retV1 rfl (resV.cellA tbk hs47 0 rfl rfl rfl rfl) ?_)))))))
 obtain ⟨L48, L49, L50, L51, hs56, ho52, ho53, ho54, ho55⟩ := ownScrR.op hs47 o_s
 have hs57 := ((hs56.fb b2).fb b4)
 obtain ⟨L59, hs58, ho60⟩ := ownScrR.fl hs57 ho52 ho53 ho54 ho55
 have hs61 := ((hs58.fb b2).fb b4)
 refine ownScrR.ret rfl (St.keep1 (hs61.fr L59)) ho60 ?_
 · unfold downD; first | (rw [if_pos e1, ← rollUp_wrap]; exact rfl) | (rw [if_neg e1, if_pos e2]; rfl) | (rw [if_neg e1, if_neg e2]; rfl)
theorem k56_ (s : ScrR) (w : World) (f_s : okScrR 549755813888 w s) (hsm : smScr 1048576 s.dat) :
    Calls Tryz.prog 65 #[.agg (cScr s).toArray] w fun e w' => ∃ r L1, e = .returned (.agg (cScr r).toArray) ∧ St w [] L1 w' ∧ ownScrR r L1 ∧ r.dat = scrDownRes s.dat := by
 have nb_s_Main_Cells := f_s.Main.Cells_n
 have nl_s_Main_Cells := f_s.Main.Cells.len
 have nb_s_Alt_Cells := f_s.Alt.Cells_n
 have nl_s_Alt_Cells := f_s.Alt.Cells.len
 have nb_s_Tabs := f_s.Tabs_n
 have nl_s_Tabs := f_s.Tabs.len
 have nb_s_Back := f_s.Back_n
 have nl_s_Back := f_s.Back.sl.len
 have hsmB : smScr 549755813888 s.dat := by first | assumption | exact smScr_mono hsm (by decide)
 refine enter 10 Tryz.func65 rfl Tryz.ntmps65 rfl rfl ?_
 have hs1 := St.init w
 refine WC.sr (WL.bx hs1 rfl (fun b2 _ hs3 => WL.al hs3 Tryz.zeroValue33 rfl rfl (fun b4 _ hs5 => WL.nil (WC.seq (fun K6 hK6 => WC.sr (WL.r 1 hs5 [1] rfl (WL.cl Tryz.call63 rfl (k41_ s _ (okScrR.st0 f_s hs5)) ?_)))))))
 rintro _ whs7 ⟨rfl, hs7⟩
 replace hs7 := hs5.call0 hs7
 refine ⟨_, rfl, WL.r 1 hs7 [] rfl (WL.nil (WC.cq rfl (fun h8 qh8 => ?_) (fun h8 qh8 => ?_)))⟩
 ·have hk : scrOk s.dat = false := by have h9 := h8; simpa using h9
  refine WC.sr ?_
  refine WL.val rfl rfl rfl (Run.build rfl rfl rfl rfl (built_33)) (WL.st tbk hs7 0 rfl rfl (fun _ hs9 => WL.nil (WC.ret (tkR ?_))))
  clear hK6
  refine retV1 rfl (resV.cellA tbk hs9 0 rfl rfl rfl rfl) ?_
  obtain ⟨L15, hs14, ho16⟩ := ownScrR.fl hs9 (OwnF.nil _ _) (OwnF.nil _ _) (OwnF.nil _ _) (OwnN.nil _ _ _)
  have hs17 := ((hs14.fb b2).fb b4)
  refine ownScrR.ret rfl (St.keep1 (hs17.fr L15)) ho16 ?_
  · unfold scrDownRes; rw [hk]; rfl
 have hk : scrOk s.dat = true := by have h9 := h8; simpa using h9
 have hf := ScrFine.of hk
 refine WC.skip (hK6 _ _ (WC.sr (WL.r 1 hs7 [1] rfl ?_)))
 refine WL.cl Tryz.call64 rfl (k45_ s _ (okScrR.st0 f_s hs7) ?_) ?_
 · first | assumption | rfl | omega | (rw [hk]; assumption)
 rintro _ whs18 ⟨r19, L1_20, rfl, hs18, ho21, hd22⟩
 replace hs18 := hs7.callF hs18
 refine ⟨_, rfl, ?_⟩
 replace hs18 := St.back [_, _] hs18
 have hcp := hd22
 have hfc : ScrFine (ScrR.dat _) := hcp.symm ▸ hf
 refine WL.cl Tryz.call142 rfl (k55_ r19 _ _ ho21 (hs18.ow L1_20) (St.nodupL (hs18.fr L1_20)) ?_ ?_) ?_
 iterate 2 first | assumption | rfl | omega | (rw [hd22]; assumption)
 rintro _ whs23 ⟨r24, L1_25, rfl, hs23, ho26, hd27⟩
 replace hs23 := St.lend (hs18.fr L1_20) hs23
 refine ⟨_, rfl, ?_⟩
 replace hs23 := St.back [_, _] hs23
 refine WL.st tbk hs23 0 rfl rfl (fun _ hs28 => WL.nil (WC.ret (retV1 rfl (resV.cellA tbk hs28 0 rfl rfl rfl rfl) ?_)))
 refine ⟨r24, _, rfl, (St.keep1 (hs28.fr L1_25)), ?_, ?_⟩
 · exact ho26
 · unfold scrDownRes; rw [hk]; exact hd27.trans (by rw [hcp]; rfl)
theorem k57_ (s : ScrR) (w : World) (f_s : okScrR 549755813888 w s) (hsm : smScr 1048576 s.dat) :
    Calls Tryz.prog 66 #[.agg (cScr s).toArray] w fun e w' => ∃ r L1, e = .returned (.agg (cScr r).toArray) ∧ St w [] L1 w' ∧ ownScrR r L1 ∧ r.dat = scrUpRes s.dat := by
 have nb_s_Main_Cells := f_s.Main.Cells_n
 have nl_s_Main_Cells := f_s.Main.Cells.len
 have nb_s_Alt_Cells := f_s.Alt.Cells_n
 have nl_s_Alt_Cells := f_s.Alt.Cells.len
 have nb_s_Tabs := f_s.Tabs_n
 have nl_s_Tabs := f_s.Tabs.len
 have nb_s_Back := f_s.Back_n
 have nl_s_Back := f_s.Back.sl.len
 have hsmB : smScr 549755813888 s.dat := by first | assumption | exact smScr_mono hsm (by decide)
 refine enter 33 Tryz.func66 rfl Tryz.ntmps66 rfl rfl ?_
 have hs1 := St.init w
 refine WC.sr (WL.bx hs1 rfl (fun b2 _ hs3 => WL.al hs3 Tryz.zeroValue33 rfl rfl (fun b4 _ hs5 => WL.nil (WC.seq (fun K6 hK6 => WC.sr (WL.r 1 hs5 [1] rfl (WL.cl Tryz.call63 rfl (k41_ s _ (okScrR.st0 f_s hs5)) ?_)))))))
 rintro _ whs7 ⟨rfl, hs7⟩
 replace hs7 := hs5.call0 hs7
 refine ⟨_, rfl, WL.r 1 hs7 [] rfl (WL.nil (WC.cq rfl (fun h8 qh8 => ?_) (fun h8 qh8 => ?_)))⟩
 ·have hk : scrOk s.dat = false := by have h9 := h8; simpa using h9
  refine WC.sr ?_
  refine WL.val rfl rfl rfl (Run.build rfl rfl rfl rfl (built_33)) (WL.st tbk hs7 0 rfl rfl (fun _ hs9 => WL.nil (WC.ret (tkR ?_))))
  clear hK6
  refine retV1 rfl (resV.cellA tbk hs9 0 rfl rfl rfl rfl) ?_
  obtain ⟨L15, hs14, ho16⟩ := ownScrR.fl hs9 (OwnF.nil _ _) (OwnF.nil _ _) (OwnF.nil _ _) (OwnN.nil _ _ _)
  have hs17 := ((hs14.fb b2).fb b4)
  refine ownScrR.ret rfl (St.keep1 (hs17.fr L15)) ho16 ?_
  · unfold scrUpRes; rw [hk]; rfl
 have hk : scrOk s.dat = true := by have h9 := h8; simpa using h9
 have hf := ScrFine.of hk
 have hgs : gridOk (shownR s).dat = true := by rw [shownR_dat]; exact hf.shown.1
 have hts : 0 ≤ s.Top ∧ s.Top ≤ s.Bot ∧ s.Bot < (shownR s).H := by have h9 : (shownR s).H = (shownD s.dat).H := congrArg GridD.H shownR_dat; rw [h9, hf.shown.2.2]; exact ⟨hf.reg.1.1, hf.reg.1.2, hf.reg.2.1⟩
 have hyb := hf.pos.2
 refine WC.skip (hK6 _ _ (WC.sr (WL.r 1 hs7 [1] rfl ?_)))
 refine WL.cl Tryz.call64 rfl (k45_ s _ (okScrR.st0 f_s hs7) ?_) ?_
 · first | assumption | rfl | omega | (rw [hcp]; assumption)
 rintro _ whs18 ⟨r19, L1_20, rfl, hs18, ho21, hd22⟩
 replace hs18 := hs7.callF hs18
 refine ⟨_, rfl, ?_⟩
 replace hs18 := St.back [_, _] hs18
 have hcp := hd22
 refine WL.al hs18 Tryz.zeroValue33 rfl rfl (fun b23 _ hs24 => WL.st tbk hs24 0 rfl rfl (fun _ hs25 => WL.nil (WC.sr (WL.r 1 hs25 [] rfl (WL.st tbk hs25 0 rfl rfl (fun _ hs26 => WL.nil (WC.seq (fun K27 hK27 => ?_))))))))
 refine WC.r1 hs26 [2, 2] rfl (WC.cq rfl (fun h28 qh28 => ?_) (fun h28 qh28 => ?_))
 ·have e1 : s.dat.Y = s.dat.Top := by show s.Y = s.Top; have h9 := h28; simpa using h9
  refine WC.seq (fun K29 hK29 => WC.rG 9 ((hs26.fb b4).d1.rm L1_20) (hs26.rm L1_20) hs26 (fun _ hs30 => ?_))
  refine WG.rn [0, 1, 3, 4, 5, 6] (hs30.rm L1_20) [0, 2, 2, 2] rfl rfl (WG.o1 2 rfl rfl (WL.cl Tryz.call145 rfl (k50_ s _ (okScrR.st0 f_s hs30)) ?_))
  rintro _ whs31 ⟨rfl, hs31⟩
  replace hs31 := hs30.call0 hs31
  refine ⟨_, rfl, WL.nil ⟨(hs31.rm L1_20), WG.o1 7 rfl rfl (WL.cl Tryz.call144 rfl (k49_ (shownR s) _ _ _ _ (okScrR.shown (okScrR.st0 f_s hs31)) ?_ ?_ ?_) ?_)⟩⟩
  iterate 3 first | assumption | rfl | omega | (rw [hcp]; assumption)
  rintro _ whs32 ⟨r33, L1_34, rfl, hs32, ho35, hd36⟩
  replace hs32 := hs31.callF hs32
  refine ⟨_, rfl, ?_⟩
  replace hs32 := St.back [_, _, _] hs32
  have hgr := hd36
  refine WL.nil ⟨((hs32.rm L1_34).rm L1_20), WG.o1 8 rfl rfl ?_⟩
  obtain ⟨L37, L38, L39, L40, hs45, ho41, ho42, ho43, ho44⟩ := ownScrR.op hs32 ho21
  have hs46 := (((hs45.fb b2).fb b4).fb b23)
  obtain ⟨L48, hs47, ho49⟩ := ownScrR.fl hs46 ho41 ho42 ho43 ho44
  have hs50 := (((hs47.fb b2).fb b4).fb b23)
  refine WL.cl Tryz.call143 rfl (k51_ ⟨r19.W, r19.H, ⟨r19.Main.W, r19.Main.H, SlD.of ho41⟩, ⟨r19.Alt.W, r19.Alt.H, SlD.of ho42⟩, r19.OnAlt, r19.X, r19.Y, false, ⟨r19.A.Fg, r19.A.Bg, r19.A.Bold, r19.A.Under, r19.A.Turn⟩, r19.Top, r19.Bot, r19.NoWrap, r19.Hide, r19.SaveX, r19.SaveY, ⟨r19.SaveA.Fg, r19.SaveA.Bg, r19.SaveA.Bold, r19.SaveA.Under, r19.SaveA.Turn⟩, SlD.of ho43, r19.Limit, SlD.ofN ho44⟩ _ r33 _ _ (by exact ho49) (hs50.ow L48) ho35 (hs50.ow L1_34) (St.nodupL (St.grp2 (L1 := L48) (L2 := L1_34) [] ((hs50.fr L1_34).fr L48)))) ?_
  rintro _ whs51 ⟨r52, L1_53, rfl, hs51, ho54, hd55⟩
  replace hs51 := St.lend (St.grp2 (L1 := L48) (L2 := L1_34) [] ((hs50.fr L1_34).fr L48)) hs51
  refine ⟨_, rfl, ?_⟩
  replace hs51 := St.back [_, _, _] hs51
  have hpt := hd55
  refine WL.nil ⟨(hs51.rm L1_53), WG.oK rfl (WL.st tbk hs51 1 rfl rfl (fun _ hs56 => WL.nil ⟨((hs56.fb b4).d1.rm L1_53), WH.dn (hK29 _ _ (WC.ret (tkR ?_)))⟩))⟩
  clear hK27
  refine retV1 rfl (resV.cellA tbk hs56 1 rfl rfl rfl rfl) (⟨r52, _, rfl, (St.keep1 (hs56.fr L1_53)), ?_, ?_⟩)
  · exact ho54
  · unfold scrUpRes; rw [hk]; show _ = upD s.dat; unfold upD; rw [if_pos e1]; refine hpt.trans ?_; rw [hgr, shownR_dat]; show putD (wrapD (ScrR.dat _) false) _ = _; rw [put_wrap, hcp]; rfl
 have e1 : ¬ s.dat.Y = s.dat.Top := by show ¬ s.Y = s.Top; have h9 := h28; simpa using h9
 refine WC.skip (hK27 _ _ (WC.seq (fun K57 hK57 => WC.r1 hs26 [2] rfl ?_)))
 refine WC.cq rfl (fun h58 qh58 => ?_) (fun h58 qh58 => ?_)
 ·have e2 : s.dat.Y > 0 := by show s.Y > 0; have h9 := h58; simpa using h9
  refine WC.region (WL.run tbk 4 hs26 [0] rfl ⟨?_, rfl, trivial⟩ ?_)
  · (have e9 := congrArg ScrD.Y hcp; simp only [ScrR.dat] at e9 hyb hk; have e8 : s.H ≤ 120 := (isSize_bnd hf.size).2.1.2; constructor <;> omega)
  refine WL.st tbk hs26 0 rfl rfl (fun _ hs59 => WL.nil (hK57 _ _ (WC.sr (WL.r 1 hs59 [0] rfl (WL.st tbk hs59 1 rfl rfl (fun _ hs60 => WL.nil (WC.ret ?_)))))))
  refine retV1 rfl (resV.cellA tbk hs60 1 rfl rfl rfl rfl) ?_
  obtain ⟨L61, L62, L63, L64, hs69, ho65, ho66, ho67, ho68⟩ := ownScrR.op hs60 ho21
  have hs70 := (((hs69.fb b2).fb b4).fb b23)
  obtain ⟨L72, hs71, ho73⟩ := ownScrR.fl hs70 ho65 ho66 ho67 ho68
  have hs74 := (((hs71.fb b2).fb b4).fb b23)
  refine ownScrR.ret rfl (St.keep1 (hs74.fr L72)) ho73 ?_
  · unfold scrUpRes; rw [hk]; show _ = upD s.dat; unfold upD; rw [if_neg e1, if_pos e2, ← hcp]; rfl
 have e2 : ¬ s.dat.Y > 0 := by show ¬ s.Y > 0; have h9 := h58; simpa using h9
 refine WC.skip (hK57 _ _ (WC.sr (WL.r 1 hs26 [0] rfl (WL.st tbk hs26 1 rfl rfl (fun _ hs75 => WL.nil (WC.ret (retV1 rfl (resV.cellA tbk hs75 1 rfl rfl rfl rfl) ?_)))))))
 obtain ⟨L76, L77, L78, L79, hs84, ho80, ho81, ho82, ho83⟩ := ownScrR.op hs75 ho21
 have hs85 := (((hs84.fb b2).fb b4).fb b23)
 obtain ⟨L87, hs86, ho88⟩ := ownScrR.fl hs85 ho80 ho81 ho82 ho83
 have hs89 := (((hs86.fb b2).fb b4).fb b23)
 refine ownScrR.ret rfl (St.keep1 (hs89.fr L87)) ho88 ?_
 · unfold scrUpRes; rw [hk]; show _ = upD s.dat; unfold upD; rw [if_neg e1, if_neg e2, ← hcp]; rfl
theorem k58_ (s : ScrR) (L_s : Hp) (w : World) (o_s : ownScrR s L_s) (h_s : Hh w L_s) (hd_ : ((L_s).map (·.1)).Nodup) :
    Calls Tryz.prog 67 #[.agg (cScr s).toArray] w fun e w' => ∃ r L1, e = .returned (.agg (cScr r).toArray) ∧ St w ((L_s).map (·.1)) L1 w' ∧ ownScrR r L1 ∧ r.dat = saveD s.dat := by
 refine enter 13 Tryz.func67 rfl Tryz.ntmps67 rfl rfl ?_
 have hs1 := St.takes1 w L_s h_s hd_
 refine WC.sr (WL.bx hs1 rfl (fun b2 _ hs3 => WL.al hs3 Tryz.zeroValue33 rfl rfl (fun b4 _ hs5 => WL.nil (WC.sr (WL.r 3 hs5 [1] rfl (WL.st tbk hs5 1 rfl rfl (fun _ hs6 => WL.nil ?_)))))))
 refine WC.sr (WL.r 3 hs6 [1] rfl (WL.st tbk hs6 1 rfl rfl (fun _ hs7 => WL.nil (WC.sr (WL.r 3 hs7 [1] rfl (WL.st tbk hs7 1 rfl rfl (fun _ hs8 => WL.nil ?_)))))))
 refine WC.sr (WL.r 1 hs8 [1] rfl (WL.st tbk hs8 0 rfl rfl (fun _ hs9 => WL.nil (WC.ret (retV1 rfl (resV.cellA tbk hs9 0 rfl rfl rfl rfl) ?_)))))
 obtain ⟨L10, L11, L12, L13, hs18, ho14, ho15, ho16, ho17⟩ := ownScrR.op hs9 o_s
 have hs19 := ((hs18.fb b2).fb b4)
 obtain ⟨L21, hs20, ho22⟩ := ownScrR.fl hs19 ho14 ho15 ho16 ho17
 have hs23 := ((hs20.fb b2).fb b4)
 refine ownScrR.ret rfl (St.keep1 (hs23.fr L21)) ho22 ?_
 · rfl
theorem k59_ (s : ScrR) (L_s : Hp) (w : World) (o_s : ownScrR s L_s) (h_s : Hh w L_s) (hd_ : ((L_s).map (·.1)).Nodup) :
    Calls Tryz.prog 68 #[.agg (cScr s).toArray] w fun e w' => ∃ r L1, e = .returned (.agg (cScr r).toArray) ∧ St w ((L_s).map (·.1)) L1 w' ∧ ownScrR r L1 ∧ r.dat = backD s.dat := by
 refine enter 14 Tryz.func68 rfl Tryz.ntmps68 rfl rfl ?_
 have hs1 := St.takes1 w L_s h_s hd_
 refine WC.sr (WL.bx hs1 rfl (fun b2 _ hs3 => WL.al hs3 Tryz.zeroValue33 rfl rfl (fun b4 _ hs5 => WL.nil (WC.sr (WL.r 3 hs5 [1] rfl (WL.st tbk hs5 1 rfl rfl (fun _ hs6 => WL.nil ?_)))))))
 refine WC.sr (WL.r 3 hs6 [1] rfl (WL.st tbk hs6 1 rfl rfl (fun _ hs7 => WL.nil (WC.sr (WL.r 3 hs7 [1] rfl (WL.st tbk hs7 1 rfl rfl (fun _ hs8 => WL.nil ?_)))))))
 refine WC.sr (WL.r 1 hs8 [] rfl (WL.st tbk hs8 1 rfl rfl (fun _ hs9 => WL.nil (WC.sr (WL.r 1 hs9 [1] rfl (WL.st tbk hs9 0 rfl rfl (fun _ hs10 => WL.nil ?_)))))))
 refine WC.ret (retV1 rfl (resV.cellA tbk hs10 0 rfl rfl rfl rfl) ?_)
 obtain ⟨L11, L12, L13, L14, hs19, ho15, ho16, ho17, ho18⟩ := ownScrR.op hs10 o_s
 have hs20 := ((hs19.fb b2).fb b4)
 obtain ⟨L22, hs21, ho23⟩ := ownScrR.fl hs20 ho15 ho16 ho17 ho18
 have hs24 := ((hs21.fb b2).fb b4)
 refine ownScrR.ret rfl (St.keep1 (hs24.fr L22)) ho23 ?_
 · rfl
theorem part_next {g : GridD} {f : Nat → CellD} {lo a j k : Nat} {xs : List CellD} {v : CellD} (hj : j = lo + a) (hl : j < xs.length) (hv : v = f (lo + a)) (hq : cat xs k = partF g f lo a k) : cat (xs.set j v) k = partF g f lo (a + 1) k := by
 subst hj
 rw [partF_one]
 show gat encCell (xs.set (lo + a) v) k = _
 rw [gat_set2 hl]
 split
 ·rename_i hk; subst hk; exact hv
 ·exact hq
theorem part_skip {g : GridD} {f : Nat → CellD} {a k : Nat} {xs : List CellD} (hf : f a = cat g.Cells a) (hq : cat xs k = partF g f 0 a k) : cat xs k = partF g f 0 (a + 1) k := by
 rw [partF_one, hq]
 split
 ·rename_i hk
  rw [Nat.zero_add] at hk
  subst hk
  unfold partF
  rw [if_neg (by omega)]; exact hf.symm
 ·rfl
theorem part_done {g : GridD} {f : Nat → CellD} {lo a : Nat} {w h : Int} {xs : List CellD} (hw : w = g.W) (hh : h = g.H) (hl : xs.length = g.Cells.length) (ho : ∀ k, k < g.Cells.length → ¬ (lo ≤ k ∧ k < lo + a) → f k = cat g.Cells k)
  (hp : ∀ k, k < g.Cells.length → cat xs k = partF g f lo a k) : (⟨w, h, xs⟩ : GridD) = gmap g f := by
 subst hw hh
 unfold gmap
 congr 1
 refine ext_gat (F := encCell) hl fun k hk => ?_
 have h1 := hp k hk
 unfold partF at h1
 by_cases h2 : lo ≤ k ∧ k < lo + a
 ·rw [if_pos h2] at h1; exact h1
 ·rw [if_neg h2] at h1; rw [ho k hk h2]; exact h1
theorem dm_eq {w k : Nat} : k = k / w * w + k % w := by
 have := Nat.div_add_mod k w
 rw [Nat.mul_comm] at this
 exact this.symm
theorem shiftF_at {g : GridD} {x y n : Int} {a : Nat} (h0 : 0 ≤ x) (h1 : 0 ≤ y) (h2 : x + a < g.W) : shiftF g x y n (y.toNat * g.W.toNat + x.toNat + a) = if x ≤ x + a - n ∧ x + a - n < g.W then cat g.Cells (y.toNat * g.W.toNat + (x + a - n).toNat) else blankC := by
 obtain ⟨e1, e2⟩ := at_div (w := g.W.toNat) (y := y.toNat) (x := x.toNat + a) (by omega)
 unfold shiftF
 rw [Nat.add_assoc, e1, e2, if_pos ⟨by omega, by omega⟩, show ((x.toNat + a : Nat) : Int) = x + a by omega]
theorem shiftF_out {g : GridD} {x y n : Int} {k : Nat} (hw : 0 < g.W.toNat) (h0 : 0 ≤ x) (h1 : 0 ≤ y) (hx : x < g.W) (h : ¬ (y.toNat * g.W.toNat + x.toNat ≤ k ∧ k < y.toNat * g.W.toNat + x.toNat + (g.W - x).toNat)) : shiftF g x y n k = cat g.Cells k := by
 unfold shiftF
 rw [if_neg]
 rintro ⟨h2, h3⟩
 apply h
 have h4 := dm_eq (w := g.W.toNat) (k := k)
 have h5 := Nat.mod_lt k hw
 have h6 : k / g.W.toNat = y.toNat := by omega
 rw [h6] at h4
 omega
theorem shift_big {g : GridD} {x y n m : Int} (h0 : 0 ≤ x) (hn : n = m ∨ (g.W ≤ n ∧ g.W ≤ m ∨ n ≤ -g.W ∧ m ≤ -g.W)) : gShift g x y n = gShift g x y m := by
 rcases hn with rfl | hn
 ·rfl
 ·unfold gShift
  congr 1
  funext k
  unfold shiftF
  split
  ·rename_i h
   have h5 : ((k % g.W.toNat : Nat) : Int) < g.W ∨ g.W ≤ 0 := by
    rcases Nat.eq_zero_or_pos g.W.toNat with h6 | h6
    ·omega
    ·have := Nat.mod_lt k h6; omega
   rw [if_neg (by omega), if_neg (by omega)]
  ·rfl
theorem shift_done {g : GridD} {x y n m w h : Int} {a : Nat} {xs : List CellD} (h0 : 0 ≤ x ∧ x < g.W) (h1 : 0 ≤ y) (ha : (a : Int) = g.W - x) (hw : w = g.W) (hh : h = g.H) (hl : xs.length = g.Cells.length) (hm : n = m ∨ (g.W ≤ n ∧ g.W ≤ m ∨ n ≤ -g.W ∧ m ≤ -g.W))
  (hp : ∀ k, k < g.Cells.length → cat xs k = partF g (shiftF g x y m) (y.toNat * g.W.toNat + x.toNat) a k) : (⟨w, h, xs⟩ : GridD) = gShift g x y n := by
 rw [shift_big h0.1 hm]
 exact part_done hw hh hl (fun k _ hk => shiftF_out (by omega) h0.1 h1 h0.2 (by rw [show (g.W - x).toNat = a by omega]; exact hk)) hp
theorem fill_clear {g : GridD} {x y n : Int} (h0 : 0 ≤ x ∧ x < g.W) (h1 : 0 ≤ y) : gFill g x y n 1 blankC = gmap g (clearF g (y * g.W + x) (min (y * g.W + x + n) ((y + 1) * g.W))) := by
 unfold gFill
 congr 1
 funext k
 unfold fillFn clearF
 have hw : 0 < g.W.toNat := by omega
 have h4 := dm_eq (w := g.W.toNat) (k := k)
 have h5 := Nat.mod_lt k hw
 generalize hq : k / g.W.toNat = q at h4 ⊢
 generalize hr : k % g.W.toNat = r at h4 h5 ⊢
 have e1 : (k : Int) = q * g.W + r := by
  rw [h4, Int.natCast_add, Int.natCast_mul, Int.toNat_of_nonneg (by omega)]
 have e2 : (y + 1) * g.W = y * g.W + g.W := by rw [Int.add_mul, Int.one_mul]
 have hiff : ((x ≤ (r : Int) ∧ (r : Int) < x + n) ∧ y ≤ (q : Int) ∧ (q : Int) < y + 1) ↔ y * g.W + x ≤ (k : Int) ∧ (k : Int) < min (y * g.W + x + n) ((y + 1) * g.W) := by
  constructor
  ·rintro ⟨h6, h7⟩
   have h8 : (q : Int) = y := by omega
   rw [e1, h8, e2]
   omega
  ·rintro ⟨h6, h7⟩
   have h8 : (q : Int) = y := by
    rcases Int.lt_or_le (q : Int) y with h9 | h9
    ·have := Int.mul_le_mul_of_nonneg_right (show (q : Int) + 1 ≤ y by omega) (show 0 ≤ g.W by omega)
     rw [Int.add_mul, Int.one_mul] at this
     omega
    ·rcases Int.lt_or_le y (q : Int) with h10 | h10
     ·have := Int.mul_le_mul_of_nonneg_right (show y + 1 ≤ (q : Int) by omega) (show 0 ≤ g.W by omega)
      rw [e2] at this
      omega
     ·omega
   rw [e1, h8, e2] at h7
   rw [e1, h8] at h6
   omega
 by_cases h : y * g.W + x ≤ (k : Int) ∧ (k : Int) < min (y * g.W + x + n) ((y + 1) * g.W)
 ·rw [if_pos h, if_pos (hiff.2 h)]
 ·rw [if_neg h, if_neg (fun h9 => h (hiff.1 h9))]
theorem clearF_out {g : GridD} {a b : Int} {k : Nat} (h : ¬ (a ≤ (k : Int) ∧ (k : Int) < b)) : clearF g a b k = cat g.Cells k := by unfold clearF; rw [if_neg h]
theorem clearF_in {g : GridD} {a b : Int} {k : Nat} (h : a ≤ (k : Int) ∧ (k : Int) < b) : clearF g a b k = blankC := by unfold clearF; rw [if_pos h]
theorem countP_lowb {l : List Int} {t : Int} : l.countP (fun x => decide (x < t)) = lowb l t := List.countP_eq_length_filter
theorem asc_le {l : List Int} {lo hi : Int} (h : isAsc l lo hi = true) : l.Pairwise (· ≤ ·) := (asc_pair.1 h).1.imp (fun h => Int.le_of_lt h)
theorem int_not {l : List Int} {x : Int} (h : ∀ j, j < l.length → iat l j ≠ x) : ¬ x ∈ l := by
 intro hx
 obtain ⟨j, hj, rfl⟩ := List.mem_iff_getElem.1 hx
 exact h j hj (gat_lt (F := encI) hj)
def tabTo (s : ScrD) (i : Nat) : List Int := ((List.range i).map (fun i : Nat => (i : Int))).filter (fun x => decide (x = s.X) || s.Tabs.contains x)
theorem tabTo_in {s : ScrD} {i : Nat} (h : (i : Int) = s.X ∨ s.Tabs.contains (i : Int) = true) : tabTo s (i + 1) = tabTo s i ++ [(i : Int)] := by
 unfold tabTo
 rw [List.range_succ, List.map_append, List.filter_append]
 congr 1
 show List.filter _ [(i : Int)] = _
 rw [List.filter_cons, if_pos (by rw [Bool.or_eq_true, decide_eq_true_eq]; exact h)]
 rfl
theorem tabTo_out {s : ScrD} {i : Nat} (h : ¬ ((i : Int) = s.X ∨ s.Tabs.contains (i : Int) = true)) : tabTo s (i + 1) = tabTo s i := by
 unfold tabTo
 rw [List.range_succ, List.map_append, List.filter_append]
 show _ ++ List.filter _ [(i : Int)] = _
 rw [List.filter_cons, if_neg (by rw [Bool.or_eq_true, decide_eq_true_eq]; exact h)]
 exact List.append_nil _
theorem tabTo_le {s : ScrD} {i : Nat} : (tabTo s i).length ≤ i := by
 refine Nat.le_trans (List.length_filter_le _ _) ?_
 rw [List.length_map, List.length_range]; exact Nat.le_refl _
def isMove (b : Int) : Bool := decide (b = 65 ∨ b = 66 ∨ b = 67 ∨ b = 68 ∨ b = 71 ∨ b = 100 ∨ b = 72 ∨ b = 102)
def moveByD (s : ScrD) (n m b : Int) : ScrD :=
 if b = 65 then moveD s s.X (s.Y - n) else if b = 66 then moveD s s.X (s.Y + n) else if b = 67 then moveD s (s.X + n) s.Y else if b = 68 then moveD s (s.X - n) s.Y
 else if b = 71 then moveD s (n - 1) s.Y else if b = 100 then moveD s s.X (n - 1) else if b = 72 ∨ b = 102 then moveD s (m - 1) (n - 1) else s
theorem csiD_move {s : ScrD} {l : List Int} {b : Int} (h : isMove b = true) : csiD s l b = moveByD s (argI l 0 1) (argI l 1 1) b := by
 unfold isMove at h
 rw [decide_eq_true_eq] at h
 rcases h with rfl | rfl | rfl | rfl | rfl | rfl | rfl | rfl <;> rfl
theorem findI_bnd {p : Int → Bool} {s : List Int} (h : ¬ findI p s = -1) : 0 ≤ findI p s ∧ findI p s < s.length := by
 rcases findI_cases (p := p) (xs := s) with ⟨h1, _⟩ | ⟨i, hi, h1, _⟩
 ·exact absurd h1 h
 ·rw [h1]; omega
structure DelTo (p : Int → Bool) (s : List Int) (j m : Nat) (zs : List Int) : Prop where
 len : zs.length = s.length
 pre : zs.take m = (s.take j).filter (fun x => !p x)
 rest : ∀ k, j ≤ k → k < s.length → iat zs k = iat s k
theorem delTo_start {p : Int → Bool} {s : List Int} (h : ¬ findI p s = -1) : DelTo p s ((findI p s).toNat + 1) (findI p s).toNat s := by
 rcases findI_cases (p := p) (xs := s) with ⟨h1, _⟩ | ⟨i, hi, h1, h2, h3⟩
 ·exact absurd h1 h
 ·rw [h1, Int.toNat_natCast]
  refine ⟨rfl, ?_, fun _ _ _ => rfl⟩
  rw [List.take_add_one, List.getElem?_eq_getElem hi, List.filter_append]
  have e1 : (s.take i).filter (fun x => !p x) = s.take i := by
   rw [List.filter_eq_self]
   intro x hx
   obtain ⟨k, hk, rfl⟩ := List.mem_iff_getElem.1 hx
   rw [List.length_take] at hk
   rw [List.getElem_take, h3 k (by omega)]; rfl
  rw [e1]
  show _ = s.take i ++ List.filter _ [s[i]]
  rw [List.filter_cons, if_neg (by rw [h2]; decide)]
  exact (List.append_nil _).symm
theorem DelTo.keep {p : Int → Bool} {s zs : List Int} {j m : Nat} (h : DelTo p s j m zs) (hj : j < s.length) (hm : m < j) (hp : p (iat zs j) = false) : DelTo p s (j + 1) (m + 1) (zs.set m (iat zs j)) := by
 have hl := h.len
 refine ⟨by rw [List.length_set]; exact hl, ?_, fun k h1 h2 => ?_⟩
 ·rw [List.take_add_one, List.take_set_of_le (Nat.le_refl _), List.getElem?_set_self (by omega), h.pre, List.take_add_one (l := s), gat_get (F := encI) hj, List.filter_append]
  congr 1
  show _ = List.filter _ [iat s j]
  rw [← h.rest j (Nat.le_refl _) hj, List.filter_cons, if_pos (by rw [hp]; decide)]
  rfl
 ·show gat encI (zs.set m _) k = _
  rw [gat_set2 (by omega), if_neg (by omega)]
  exact h.rest k (by omega) h2
theorem DelTo.skip {p : Int → Bool} {s zs : List Int} {j m : Nat} (h : DelTo p s j m zs) (hj : j < s.length) (hp : p (iat zs j) = true) : DelTo p s (j + 1) m zs := by
 refine ⟨h.len, ?_, fun k h1 h2 => h.rest k (by omega) h2⟩
 rw [h.pre, List.take_add_one (l := s), gat_get (F := encI) hj, List.filter_append]
 show _ = _ ++ List.filter _ [iat s j]
 rw [← h.rest j (Nat.le_refl _) hj, List.filter_cons, if_neg (by rw [hp]; decide)]
 exact (List.append_nil _).symm
theorem DelTo.all {p : Int → Bool} {s zs : List Int} {j m : Nat} (h : DelTo p s j m zs) (hj : s.length ≤ j) : zs.take m = s.filter (fun x => !p x) := by
 rw [h.pre, List.take_of_length_le hj]
theorem del_none {p : Int → Bool} {s : List Int} (h : findI p s = -1) : s.filter (fun x => !p x) = s := by
 rcases findI_cases (p := p) (xs := s) with ⟨_, h1⟩ | ⟨i, hi, h1, _⟩
 ·rw [List.filter_eq_self]; intro x hx; rw [h1 x hx]; rfl
 ·rw [h1] at h; omega
theorem tabsD_0 {s : ScrD} : tabsD s 0 = { s with Tabs := s.Tabs.filter fun x => !decide (x = s.X) } := by
 unfold tabsD
 congr 1
 exact List.filter_congr (fun x _ => by simp)
theorem tabsD_3 {s : ScrD} : tabsD s 3 = { s with Tabs := [] } := by
 unfold tabsD
 congr 1
 rw [List.filter_eq_nil_iff]
 intro x _; simp
theorem tabsD_o {s : ScrD} {k : Int} (h0 : ¬ k = 0) (h3 : ¬ k = 3) : tabsD s k = s := by
 unfold tabsD
 rw [show s.Tabs.filter _ = s.Tabs from List.filter_eq_self.2 (fun x _ => by simp [h0, h3])]
theorem moveByD_no {s : ScrD} {n m b : Int} (h : isMove b = false) : moveByD s n m b = s := by
 unfold isMove at h
 rw [decide_eq_false_iff_not] at h
 unfold moveByD
 rw [if_neg (by omega), if_neg (by omega), if_neg (by omega), if_neg (by omega), if_neg (by omega), if_neg (by omega), if_neg (by omega)]
theorem isMove_no {b : Int} (h : isMove b = false) : ¬ b = 65 ∧ ¬ b = 66 ∧ ¬ b = 67 ∧ ¬ b = 68 ∧ ¬ b = 71 ∧ ¬ b = 100 ∧ ¬ (b = 72 ∨ b = 102) := by
 unfold isMove at h
 rw [decide_eq_false_iff_not] at h
 omega
theorem fine_smB {s : ScrD} {B : Nat} (h : ScrFine s) (hB : 20220 ≤ B) : smScr B s := totScr_sm (Nat.le_trans (scr_tot h.ok) hB)
theorem clamp_eq {x h : Int} (h0 : 0 ≤ h) : clampI x h = if x < 0 then 0 else min x h := by unfold clampI; split <;> omega
theorem ScrFine.reg2 {s : ScrD} {l : List Int} (h : ScrFine s) (hl : areArgs l = true) (hr : argI l 0 1 - 1 < argI l 1 s.H - 1 ∧ argI l 1 s.H - 1 < s.H) : ScrFine { s with Top := argI l 0 1 - 1, Bot := argI l 1 s.H - 1 } := by
 have b := gridOk_bnd h.gM
 obtain ⟨d1, d2, _⟩ := h.dim
 have h1 := argI_pos (k := 0) hl (d := 1) (by omega)
 exact ⟨h.gM, h.gA, h.dim, h.pos, h.sav, h.wrp, h.aA, h.aS, ⟨by constructor <;> (simp only; omega), hr.2, fun he => by simp only at he; omega⟩, h.lim, h.tab, h.row⟩
theorem filt_in {p : Int → Bool} {l : List Int} {i : Nat} (h : i < l.length) (hp : p (iat l i) = true) : (l.take (i + 1)).filter p = (l.take i).filter p ++ [iat l i] := by
 rw [List.take_add_one, gat_get (F := encI) h, List.filter_append]
 congr 1
 show List.filter p [iat l i] = _
 rw [List.filter_cons, if_pos hp]; rfl
theorem filt_out {p : Int → Bool} {l : List Int} {i : Nat} (h : i < l.length) (hp : ¬ p (iat l i) = true) : (l.take (i + 1)).filter p = (l.take i).filter p := by
 rw [List.take_add_one, gat_get (F := encI) h, List.filter_append]
 show _ ++ List.filter p [iat l i] = _
 rw [List.filter_cons, if_neg hp]
 exact List.append_nil _
def tabP (s : ScrD) (k : Int) (x : Int) : Bool := (decide (k = 0) && !decide (x = s.X)) || (!decide (k = 0) && !decide (k = 3))
theorem tabsD_P {s : ScrD} {k : Int} : tabsD s k = { s with Tabs := s.Tabs.filter (tabP s k) } := rfl
theorem tabP_iff {s : ScrD} {k x : Int} : tabP s k x = true ↔ (k = 0 ∧ ¬ x = s.X) ∨ (¬ k = 0 ∧ ¬ k = 3) := by
 unfold tabP
 simp only [Bool.or_eq_true, Bool.and_eq_true, decide_eq_true_eq, Bool.not_eq_true', decide_eq_false_iff_not]
def modeTo (s : ScrD) (l : List Int) (b : Int) (i : Nat) : ScrD := if b = 104 ∨ b = 108 then modesD s (l.take i) (decide (b = 104)) else s
theorem modeTo_zero {s : ScrD} {l : List Int} {b : Int} : modeTo s l b 0 = s := by unfold modeTo; split <;> rfl
theorem modeTo_next {s : ScrD} {l : List Int} {b : Int} {i : Nat} (hb : b = 104 ∨ b = 108) (h : i < l.length) : modeTo s l b (i + 1) = modeD (modeTo s l b i) (iat l i) (decide (b = 104)) := by
 unfold modeTo; rw [if_pos hb, if_pos hb]; exact modesD_take h
theorem modeTo_same {s : ScrD} {l : List Int} {b : Int} {i : Nat} (hb : ¬ (b = 104 ∨ b = 108)) : modeTo s l b (i + 1) = modeTo s l b i := by
 unfold modeTo; rw [if_neg hb, if_neg hb]
theorem ScrFine.modeT {s : ScrD} {l : List Int} {b : Int} {i : Nat} (h : ScrFine s) : ScrFine (modeTo s l b i) := by
 show ScrFine (if _ then _ else _)
 split
 ·exact h.modes
 ·exact h
theorem modeTo_all {s : ScrD} {l : List Int} {b : Int} {i : Nat} (hi : l.length ≤ i) : modeTo s l b i = seqD s true l b := by
 unfold modeTo seqD
 rw [List.take_of_length_le hi, if_neg (show ¬ true = false by decide)]; rfl
theorem scrGo_eq {s : ScrD} {x y : Int} (h : ScrFine s) : scrGoRes s x y = moveD s x y := by unfold scrGoRes; rw [if_pos h.ok]
theorem gridRes_eq {w h : Int} (hs : isSize w h = true) : gridRes w h = gridNew w h := by unfold gridRes; rw [hs]; rfl
theorem csi_not {s : ScrD} {mark : Bool} {l : List Int} {b : Int} (h : ¬ (scrOk s = true ∧ areArgs l = true)) : scrCsiRes s mark l b = scr0 := by
 unfold scrCsiRes csiOk
 rw [if_neg]
 rw [Bool.and_eq_true]
 exact fun h9 => h ⟨h9.2, h9.1⟩
theorem csi_yes {s : ScrD} {mark : Bool} {l : List Int} {b : Int} (h : scrOk s = true) (hl : areArgs l = true) : scrCsiRes s mark l b = seqD s mark l b := by
 unfold scrCsiRes csiOk
 rw [if_pos (by rw [Bool.and_eq_true]; exact ⟨hl, h⟩)]
theorem k60_ (A_l : Option Addr) (n_l c_l : Nat) (l : List Int) (d : Int) (w : World) (f_l : SlF encI w A_l n_l l) (hn : n_l ≤ 549755813888) :
    Calls Tryz.prog 177 #[.slice A_l n_l c_l, i64 0, i64 d] w fun e w' => e = .returned (i64 (argI l 0 d)) ∧ St w [] [] w' := by
 have hl := f_l.len
 refine enter 22 Tryz.func177 rfl Tryz.ntmps177 rfl rfl ?_
 have hs1 := St.init w
 refine WC.r1 hs1 [] rfl (WC.seq (fun K2 hK2 => WC.r1 hs1 [] rfl ?_))
 refine WC.cq rfl (fun h3 qh3 => ?_) (fun h3 qh3 => ?_)
 ·have hp : ¬ 0 < l.length := by have h9 := h3; simp at h9; omega
  refine WC.r1 hs1 [] rfl (WC.ret (tkR ?_))
  clear hK2
  refine rtv rfl rfl hs1 ?_
  rw [show argI l 0 d = d from by unfold argI; rw [if_neg (by exact fun h => hp h.1)]]
 have hp : 0 < l.length := by have h9 := h3; simp at h9; omega
 refine WC.skip (hK2 _ _ (WC.seq (fun K4 hK4 => WC.sr (WL.r 2 hs1 [] rfl ?_))))
 refine WL.val rfl rfl rfl (Run.idx Tryz.runUnderlying23 Tryz.sizeOf3 rfl rfl rfl ?_ ?_ ?_) ?_
 · exact SlF.some_ (SlF.st0 f_l hs1)
 · omega
 · omega
 refine WL.val rfl rfl rfl (Run.load Tryz.isAgg3 rfl rfl (SlF.one1 (SlF.st0 f_l hs1) ?_ rfl)) ?_
 · omega
 refine WL.r 1 hs1 [] rfl (WL.nil (WC.cq rfl (fun h5 qh5 => ?_) (fun h5 qh5 => ?_)))
 ·have hz : iat l 0 = 0 := by have h9 := h5; simpa using h9
  refine WC.r1 hs1 [] rfl (WC.ret (tkR ?_))
  clear hK4
  refine rtv rfl rfl hs1 ?_
  rw [show argI l 0 d = d from by unfold argI; rw [if_neg (by exact fun h => h.2 hz)]]
 have hz : ¬ iat l 0 = 0 := by have h9 := h5; simpa using h9
 refine WC.skip (hK4 _ _ (WC.sr (WL.r 2 hs1 [] rfl ?_)))
 refine WL.val rfl rfl rfl (Run.idx Tryz.runUnderlying23 Tryz.sizeOf3 rfl rfl rfl ?_ ?_ ?_) ?_
 · exact SlF.some_ (SlF.st0 f_l hs1)
 · omega
 · omega
 refine WL.val rfl rfl rfl (Run.load Tryz.isAgg3 rfl rfl (SlF.one1 (SlF.st0 f_l hs1) ?_ rfl)) ?_
 · omega
 refine WL.r 1 hs1 [] rfl (WL.nil (WC.ret (rtv rfl rfl hs1 ?_)))
 rw [show argI l 0 d = iat l 0 from by unfold argI; rw [if_pos ⟨hp, hz⟩]]; rfl
theorem k61_ (A_l : Option Addr) (n_l c_l : Nat) (l : List Int) (d : Int) (w : World) (f_l : SlF encI w A_l n_l l) (hn : n_l ≤ 549755813888) :
    Calls Tryz.prog 177 #[.slice A_l n_l c_l, i64 1, i64 d] w fun e w' => e = .returned (i64 (argI l 1 d)) ∧ St w [] [] w' := by
 have hl := f_l.len
 refine enter 22 Tryz.func177 rfl Tryz.ntmps177 rfl rfl ?_
 have hs1 := St.init w
 refine WC.r1 hs1 [] rfl (WC.seq (fun K2 hK2 => WC.r1 hs1 [] rfl ?_))
 refine WC.cq rfl (fun h3 qh3 => ?_) (fun h3 qh3 => ?_)
 ·have hp : ¬ 1 < l.length := by have h9 := h3; simp at h9; omega
  refine WC.r1 hs1 [] rfl (WC.ret (tkR ?_))
  clear hK2
  refine rtv rfl rfl hs1 ?_
  rw [show argI l 1 d = d from by unfold argI; rw [if_neg (by exact fun h => hp h.1)]]
 have hp : 1 < l.length := by have h9 := h3; simp at h9; omega
 refine WC.skip (hK2 _ _ (WC.seq (fun K4 hK4 => WC.sr (WL.r 2 hs1 [] rfl ?_))))
 refine WL.val rfl rfl rfl (Run.idx Tryz.runUnderlying23 Tryz.sizeOf3 rfl rfl rfl ?_ ?_ ?_) ?_
 · exact SlF.some_ (SlF.st0 f_l hs1)
 · omega
 · omega
 refine WL.val rfl rfl rfl (Run.load Tryz.isAgg3 rfl rfl (SlF.one1 (SlF.st0 f_l hs1) ?_ rfl)) ?_
 · omega
 refine WL.r 1 hs1 [] rfl (WL.nil (WC.cq rfl (fun h5 qh5 => ?_) (fun h5 qh5 => ?_)))
 ·have hz : iat l 1 = 0 := by have h9 := h5; simpa using h9
  refine WC.r1 hs1 [] rfl (WC.ret (tkR ?_))
  clear hK4
  refine rtv rfl rfl hs1 ?_
  rw [show argI l 1 d = d from by unfold argI; rw [if_neg (by exact fun h => h.2 hz)]]
 have hz : ¬ iat l 1 = 0 := by have h9 := h5; simpa using h9
 refine WC.skip (hK4 _ _ (WC.sr (WL.r 2 hs1 [] rfl ?_)))
 refine WL.val rfl rfl rfl (Run.idx Tryz.runUnderlying23 Tryz.sizeOf3 rfl rfl rfl ?_ ?_ ?_) ?_
 · exact SlF.some_ (SlF.st0 f_l hs1)
 · omega
 · omega
 refine WL.val rfl rfl rfl (Run.load Tryz.isAgg3 rfl rfl (SlF.one1 (SlF.st0 f_l hs1) ?_ rfl)) ?_
 · omega
 refine WL.r 1 hs1 [] rfl (WL.nil (WC.ret (rtv rfl rfl hs1 ?_)))
 rw [show argI l 1 d = iat l 1 from by unfold argI; rw [if_pos ⟨hp, hz⟩]]; rfl
theorem k62_ (s : ScrR) (x : Int) (y : Int) (w : World) (f_s : okScrR 549755813888 w s) (hsm : smScr 1048576 s.dat) :
    Calls Tryz.prog 163 #[.agg (cScr s).toArray, i64 x, i64 y] w fun e w' => ∃ r L1, e = .returned (.agg (cScr r).toArray) ∧ St w [] L1 w' ∧ ownScrR r L1 ∧ r.dat = scrGoRes s.dat x y := by
 have nb_s_Main_Cells := f_s.Main.Cells_n
 have nl_s_Main_Cells := f_s.Main.Cells.len
 have nb_s_Alt_Cells := f_s.Alt.Cells_n
 have nl_s_Alt_Cells := f_s.Alt.Cells.len
 have nb_s_Tabs := f_s.Tabs_n
 have nl_s_Tabs := f_s.Tabs.len
 have nb_s_Back := f_s.Back_n
 have nl_s_Back := f_s.Back.sl.len
 have hsmB : smScr 549755813888 s.dat := by first | assumption | exact smScr_mono hsm (by decide)
 refine enter 28 Tryz.func163 rfl Tryz.ntmps163 rfl rfl ?_
 have hs1 := St.init w
 refine WC.sr (WL.bx hs1 rfl (fun b2 _ hs3 => WL.al hs3 Tryz.zeroValue33 rfl rfl (fun b4 _ hs5 => WL.nil (WC.seq (fun K6 hK6 => WC.sr (WL.r 1 hs5 [1] rfl (WL.cl Tryz.call63 rfl (k41_ s _ (okScrR.st0 f_s hs5)) ?_)))))))
 rintro _ whs7 ⟨rfl, hs7⟩
 replace hs7 := hs5.call0 hs7
 refine ⟨_, rfl, WL.r 1 hs7 [] rfl (WL.nil (WC.cq rfl (fun h8 qh8 => ?_) (fun h8 qh8 => ?_)))⟩
 ·have hk : scrOk s.dat = false := by have h9 := h8; simpa using h9
  refine WC.sr ?_
  refine WL.val rfl rfl rfl (Run.build rfl rfl rfl rfl (built_33)) (WL.st tbk hs7 0 rfl rfl (fun _ hs9 => WL.nil (WC.ret (tkR ?_))))
  clear hK6
  refine retV1 rfl (resV.cellA tbk hs9 0 rfl rfl rfl rfl) ?_
  obtain ⟨L15, hs14, ho16⟩ := ownScrR.fl hs9 (OwnF.nil _ _) (OwnF.nil _ _) (OwnF.nil _ _) (OwnN.nil _ _ _)
  have hs17 := ((hs14.fb b2).fb b4)
  refine ownScrR.ret rfl (St.keep1 (hs17.fr L15)) ho16 ?_
  · unfold scrGoRes; rw [hk]; rfl
 have hk : scrOk s.dat = true := by have h9 := h8; simpa using h9
 have hf := ScrFine.of hk
 have hwh : (1 ≤ s.W ∧ s.W ≤ 120) ∧ 1 ≤ s.H ∧ s.H ≤ 120 := ⟨(isSize_bnd hf.size).1, (isSize_bnd hf.size).2.1⟩
 refine WC.skip (hK6 _ _ (WC.sr (WL.r 1 hs7 [1] rfl ?_)))
 refine WL.cl Tryz.call64 rfl (k45_ s _ (okScrR.st0 f_s hs7) ?_) ?_
 · first | assumption | rfl | omega
 rintro _ whs18 ⟨r19, L1_20, rfl, hs18, ho21, hd22⟩
 replace hs18 := hs7.callF hs18
 refine ⟨_, rfl, ?_⟩
 replace hs18 := St.back [_, _] hs18
 have hcp := hd22
 refine WL.al hs18 Tryz.zeroValue33 rfl rfl (fun b23 _ hs24 => WL.st tbk hs24 0 rfl rfl (fun _ hs25 => WL.nil (WC.sr (WL.r 4 hs25 [2] rfl (WL.cl Tryz.call218 rfl (k48_ _ _ _) ?_)))))
 rintro _ whs26 ⟨rfl, hs26⟩
 replace hs26 := hs25.call0 hs26
 refine ⟨_, rfl, WL.r 1 hs26 [] rfl (WL.st tbk hs26 0 rfl rfl (fun _ hs27 => WL.nil (WC.sr (WL.r 4 hs27 [2] rfl (WL.cl Tryz.call218 rfl (k48_ _ _ _) ?_)))))⟩
 rintro _ whs28 ⟨rfl, hs28⟩
 replace hs28 := hs27.call0 hs28
 refine ⟨_, rfl, WL.r 1 hs28 [] rfl (WL.st tbk hs28 0 rfl rfl (fun _ hs29 => WL.nil (WC.sr (WL.r 1 hs29 [] rfl (WL.st tbk hs29 0 rfl rfl (fun _ hs30 => WL.nil ?_))))))⟩
 refine WC.sr (WL.r 1 hs30 [0] rfl (WL.st tbk hs30 1 rfl rfl (fun _ hs31 => WL.nil (WC.ret (retV1 rfl (resV.cellA tbk hs31 1 rfl rfl rfl rfl) ?_)))))
 obtain ⟨L32, L33, L34, L35, hs40, ho36, ho37, ho38, ho39⟩ := ownScrR.op hs31 ho21
 have hs41 := (((hs40.fb b2).fb b4).fb b23)
 obtain ⟨L43, hs42, ho44⟩ := ownScrR.fl hs41 ho36 ho37 ho38 ho39
 have hs45 := (((hs42.fb b2).fb b4).fb b23)
 refine ownScrR.ret rfl (St.keep1 (hs45.fr L43)) ho44 ?_
 · unfold scrGoRes; rw [if_pos hk, show moveD s.dat x y = { s.dat with X := if x < 0 then 0 else min x (s.W - 1), Y := if y < 0 then 0 else min y (s.H - 1), Wrap := false } from by unfold moveD; rw [clamp_eq (by show 0 ≤ s.W - 1; omega), clamp_eq (by show 0 ≤ s.H - 1; omega)]; rfl, ← hcp]; rfl
theorem k63_ (s : ScrR) (L_s : Hp) (a : Int) (b : Int) (w : World) (o_s : ownScrR s L_s) (h_s : Hh w L_s) (hd_ : ((L_s).map (·.1)).Nodup) (hf : ScrFine s.dat) (hsmB : smScr 549755813888 s.dat) :
    Calls Tryz.prog 229 #[.agg (cScr s).toArray, i64 a, i64 b] w fun e w' => ∃ r L1, e = .returned (.agg (cScr r).toArray) ∧ St w ((L_s).map (·.1)) L1 w' ∧ ownScrR r L1 ∧ r.dat = clearD s.dat a b := by
 have hgs := hf.shown.1
 have hgb := gridOk_bnd hgs
 have hgl := grid_len hgs
 have hsS : smGrid 1099511627 (shownR s).dat := by rw [shownR_dat]; show (shownD s.dat).Cells.length ≤ _; omega
 have hsS2 : smGrid 549755813888 (shownR s).dat := Nat.le_trans hsS (by decide)
 refine enter 35 Tryz.func229 rfl Tryz.ntmps229 rfl rfl ?_
 have hs1 := St.takes1 w L_s h_s hd_
 refine WC.sr (WL.bx hs1 rfl (fun b2 _ hs3 => WL.al hs3 Tryz.zeroValue33 rfl rfl (fun b4 _ hs5 => WL.nil (WC.sr (WL.r 1 hs5 [1] rfl (WL.cl Tryz.call145 rfl (k50_ s _ (ownScrR.ok (B := 549755813888) o_s (hs5.ow L_s) (by assumption))) ?_))))))
 rintro _ whs6 ⟨rfl, hs6⟩
 replace hs6 := hs5.call0 hs6
 refine ⟨_, rfl, WL.cl Tryz.call141 rfl (k27_ (shownR s) _ (okScrR.shown (ownScrR.ok (B := 549755813888) o_s (hs6.ow L_s) (by assumption))) ?_) ?_⟩
 · first | assumption | rfl | omega
 rintro _ whs7 ⟨r8, L1_9, rfl, hs7, ho10, hd11⟩
 replace hs7 := hs6.callF hs7
 refine ⟨_, rfl, ?_⟩
 replace hs7 := St.back [_, _] hs7
 have hd0 := hd11.trans shownR_dat
 have hn0 := ownGridR.len ‹ownGridR r8 _›
 have hl0 : r8.Cells.xs.length = (shownD s.dat).Cells.length := congrArg (fun d : GridD => d.Cells.length) hd0
 refine WL.al hs7 Tryz.zeroValue28 rfl rfl (fun b12 _ hs13 => WL.st tbk hs13 0 rfl rfl (fun _ hs14 => WL.nil (WC.seq (fun K15 hK15 => WC.r1 hs14 [0] rfl (WC.block ?_)))))
 have hM20 := (St.grp1 (L1 := L1_9) [_] (((((hs14.fr L_s).fb b2).fb b4).fr L1_9).fb b12))
 refine WC.lV [1, 2, 3, 6, 7, 14] rfl hM20 (fun k_ (a_ : Hp) f => ∃ (i : Nat) (r : GridR) (L18 : Hp), k_ = r8.Cells.n - i ∧ a_ = [(b12, .cells (List.toArray [i64 r.W, i64 r.H, .slice r.Cells.A r.Cells.n r.Cells.c]) 28 (0, 0))] ++ L18 ∧ (i ≤ r8.Cells.n) ∧ (r.W = (shownD s.dat).W ∧ r.H = (shownD s.dat).H ∧ r.Cells.xs.length = (shownD s.dat).Cells.length) ∧ (∀ k, k < (shownD s.dat).Cells.length → cat r.Cells.xs k = partF (shownD s.dat) (clearF (shownD s.dat) a b) 0 i k) ∧ ownGridR r L18 ∧ Sub [(15, .int .i64 i)] f) (((fun (i : Nat) => r8.Cells.n - i) (0))) ?_ ?_
 ·refine ⟨0, r8, L1_9, rfl, rfl, ?_, ?_, ?_, ho10, ⟨rfl, trivial⟩⟩
  · omega
  · exact ⟨congrArg GridD.W hd0, congrArg GridD.H hd0, hl0⟩
  · intro k hk; rw [partF_zero]; exact congrArg (fun d : GridD => cat d.Cells k) hd0
 rintro _ _ f w ⟨i, r, L18, rfl, rfl, p0, p1, p2, ho19, hG⟩ hF hs21
 refine WC.sub _ (hG.app hF) ?_
 clear hG hF
 replace hs21 := St.ungrp1 [_] hs21
 have hs22 := (((hs21.fb b2).fb b4).fb b12)
 have hsmr : smGrid 549755813888 r.dat := by show r.Cells.xs.length ≤ 549755813888; rw [p1.2.2]; omega
 have hnr := ownGridR.len ‹ownGridR r _›
 refine WC.r1 hs22 [] rfl (WC.seq (fun K23 hK23 => ?_))
 refine WC.cq rfl (fun h24 qh24 => ?_) (fun h24 qh24 => ?_)
 ·refine WC.skip (hK23 _ _ (WC.seq (fun K25 hK25 => WC.block (WC.r1 hs22 [] rfl (WC.sr (WL.r 4 hs22 [] rfl (WL.pA tbk 3 Acts.nil hs22 [] rfl rfl rfl rfl (fun g_ => trivial) ?_)))))))
  refine WL.nil (WC.cq rfl (fun h26 qh26 => ?_) (fun h26 qh26 => ?_))
  ·have hin : a ≤ (i : Int) ∧ (i : Int) < b := by have h9 := h26; simp at h9; exact h9
   refine WC.rG 5 ((hs22.rm L18).rm L_s) hs22 hs22 (fun _ hs27 => ?_)
   refine WG.rn [0, 1, 2] hs27 [0] rfl rfl (WG.o1 3 rfl rfl (WL.cl Tryz.call180 rfl (k20_ _) ?_))
   rintro _ whs28 ⟨rfl, hs28⟩
   replace hs28 := hs27.call0 hs28
   refine ⟨_, rfl, WL.nil ⟨hs28, ?_⟩⟩
   refine WG.tk 4 rfl (by kernel_rfl) rfl rfl rfl hs28 (fun w_ hs_ => (Run.idxN Tryz.runUnderlying26 Tryz.sizeOf75 rfl rfl rfl ?_ ?_ ?_)) ?_
   · exact SlF.some_ (ownGridR.ok (B := 549755813888) ho19 ((hs_ : St _ _ _ _).ow L18) hsmr).Cells
   · first | omega | (rw [p1.2.2] at *; omega)
   · first | omega | (rw [p1.2.2] at *; omega)
   refine WG.oK rfl (WL.storeF1 (x' := blankC) (hs28.fr L18) ho19 Tryz.sizeOf75 rfl rfl rfl rfl rfl rfl rfl rfl rfl ?_ rfl (fun L29 whs30 hs30 ho31 _ => ?_))
   · first | omega | (rw [p1.2.2] at *; omega)
   replace hs30 := St.back [_, _, _] hs30
   refine WL.nil ⟨((hs30.rm L29).rm L_s), WH.dn (hK25 _ _ (WC.region (WL.r 2 hs30 [] rfl (WL.nil (tkN ?_)))))⟩
   have hF32 := (St.grp1 (L1 := L29) [_] (((((hs30.fr L_s).fb b2).fb b4).fr L29).fb b12))
   refine ⟨sbF rfl, _, hF32, _, ?_, i + 1, ⟨r.W, r.H, SlD.of ho31⟩, L29, rfl, rfl, ?_, ?_, ?_, ho31, ⟨rfl, trivial⟩⟩
   · omega
   · omega
   · first | exact p1 | exact ⟨p1.1, p1.2.1, by simp only [List.length_set]; exact p1.2.2⟩
   · intro k hk; show cat _ k = _; first | exact part_next (g := (shownD s.dat)) (by omega) (by rw [p1.2.2]; omega) (clearF_in ⟨by omega, by omega⟩).symm (p2 k hk) | exact part_skip (g := (shownD s.dat)) (clearF_out hout) (p2 k hk)
  have hout : ¬ (a ≤ (i : Int) ∧ (i : Int) < b) := by rintro ⟨z1, z2⟩; have h9 := h26; simp at h9; have := h9 z1; omega
  refine WC.skip (hK25 _ _ (WC.region (WL.r 2 hs22 [] rfl (WL.nil (tkN ?_)))))
  have hF33 := (St.grp1 (L1 := L18) [_] (((((hs22.fr L_s).fb b2).fb b4).fr L18).fb b12))
  refine ⟨sbF rfl, _, hF33, _, ?_, i + 1, r, L18, rfl, rfl, ?_, ?_, ?_, ho19, ⟨rfl, trivial⟩⟩
  · omega
  · omega
  · first | exact p1 | exact ⟨p1.1, p1.2.1, by simp only [List.length_set]; exact p1.2.2⟩
  · intro k hk; show cat _ k = _; first | exact part_next (g := (shownD s.dat)) (by omega) (by rw [p1.2.2]; omega) (clearF_in ⟨by omega, by omega⟩).symm (p2 k hk) | exact part_skip (g := (shownD s.dat)) (clearF_out hout) (p2 k hk)
 refine WC.exit (hK15 _ _ (WC.sr (WL.r 2 hs22 [2, 0] rfl (WL.cl Tryz.call143 rfl (k51_ s _ r _ _ o_s (hs22.ow L_s) ho19 (hs22.ow L18) (St.nodupL (St.grp2 (L1 := L_s) (L2 := L18) [] ((hs22.fr L18).fr L_s)))) ?_))))
 rintro _ whs34 ⟨r35, L1_36, rfl, hs34, ho37, hd38⟩
 replace hs34 := St.lend (St.grp2 (L1 := L_s) (L2 := L18) [] ((hs22.fr L18).fr L_s)) hs34
 refine ⟨_, rfl, ?_⟩
 replace hs34 := St.back [_, _, _] hs34
 refine WL.st tbk hs34 1 rfl rfl (fun _ hs39 => WL.nil (WC.ret (retV1 rfl (resV.cellA tbk hs39 1 rfl rfl rfl rfl) ?_)))
 refine ⟨r35, _, rfl, (St.keep1 (hs39.fr L1_36)), ?_, ?_⟩
 · exact ho37
 · refine hd38.trans ?_; unfold clearD; congr 1; exact part_done (g := (shownD s.dat)) (lo := 0) (a := i) p1.1 p1.2.1 p1.2.2 (fun k hk h9 => absurd (show 0 ≤ k ∧ k < 0 + i by omega) h9) p2
theorem k64_ (s : ScrR) (L_s : Hp) (a : Int) (b : Int) (k : Int) (w : World) (o_s : ownScrR s L_s) (h_s : Hh w L_s) (hd_ : ((L_s).map (·.1)).Nodup) (hf : ScrFine s.dat) (hsmB : smScr 549755813888 s.dat) :
    Calls Tryz.prog 178 #[.agg (cScr s).toArray, i64 a, i64 b, i64 k] w fun e w' => ∃ r L1, e = .returned (.agg (cScr r).toArray) ∧ St w ((L_s).map (·.1)) L1 w' ∧ ownScrR r L1 ∧ r.dat = eraseD s.dat a b k := by
 have hwh : (1 ≤ s.W ∧ s.W ≤ 120) ∧ 1 ≤ s.H ∧ s.H ≤ 120 := ⟨(isSize_bnd hf.size).1, (isSize_bnd hf.size).2.1⟩
 have hxy := hf.pos
 simp only [ScrR.dat, GridR.dat] at hxy
 have hz := isSize_bnd hf.size
 simp only [ScrR.dat] at hz
 have hv0 : 0 ≤ s.Y * s.W := Int.mul_nonneg (by omega) (by omega)
 have hv1 : (s.Y + 1) * s.W = s.Y * s.W + s.W := by rw [Int.add_mul, Int.one_mul]
 have hv2 : (s.Y + 1) * s.W ≤ s.H * s.W := Int.mul_le_mul_of_nonneg_right (by omega) (by omega)
 rw [Int.mul_comm s.H s.W] at hv2
 refine enter 39 Tryz.func178 rfl Tryz.ntmps178 rfl rfl ?_
 have hs1 := St.takes1 w L_s h_s hd_
 refine WC.sr (WL.bx hs1 rfl (fun b2 _ hs3 => WL.al hs3 Tryz.zeroValue33 rfl rfl (fun b4 _ hs5 => WL.nil (WC.r1 hs5 [1, 1, 1] rfl (WC.seq (fun K6 hK6 => WC.r1 hs5 [] rfl (WC.block ?_)))))))
 refine WC.r1 hs5 [] rfl (WC.cq rfl (fun h7 qh7 => ?_) (fun h7 qh7 => ?_))
 ·have e0 : k = 0 := by have h9 := h7; simpa using h9
  refine WC.sr (WL.r 3 hs5 [1] rfl (WL.cl Tryz.call229 rfl (k63_ s _ _ _ _ o_s (hs5.ow L_s) (St.nodupL (hs5.fr L_s)) ?_ ?_) ?_))
  iterate 2 first | assumption | rfl | omega
  rintro _ whs8 ⟨r9, L1_10, rfl, hs8, ho11, hd12⟩
  replace hs8 := St.lend (hs5.fr L_s) hs8
  refine ⟨_, rfl, ?_⟩
  replace hs8 := St.back [_, _] hs8
  refine WL.st tbk hs8 0 rfl rfl (fun _ hs13 => WL.nil (WC.ret (ibR (tkR ?_))))
  clear hK6
  refine retV1 rfl (resV.cellA tbk hs13 0 rfl rfl rfl rfl) (⟨r9, _, rfl, (St.keep1 (hs13.fr L1_10)), ?_, ?_⟩)
  · exact ho11
  · unfold eraseD; rw [if_pos e0]; exact hd12
 have e0 : ¬ k = 0 := by have h9 := h7; simpa using h9
 refine WC.r1 hs5 [] rfl (WC.cq rfl (fun h14 qh14 => ?_) (fun h14 qh14 => ?_))
 ·have e1 : k = 1 := by have h9 := h14; simpa using h9
  refine WC.sr (WL.r 4 hs5 [1] rfl (WL.cl Tryz.call229 rfl (k63_ s _ _ _ _ o_s (hs5.ow L_s) (St.nodupL (hs5.fr L_s)) ?_ ?_) ?_))
  iterate 2 first | assumption | rfl | omega
  rintro _ whs15 ⟨r16, L1_17, rfl, hs15, ho18, hd19⟩
  replace hs15 := St.lend (hs5.fr L_s) hs15
  refine ⟨_, rfl, ?_⟩
  replace hs15 := St.back [_, _] hs15
  refine WL.st tbk hs15 0 rfl rfl (fun _ hs20 => WL.nil (WC.ret (ibR (tkR ?_))))
  clear hK6
  refine retV1 rfl (resV.cellA tbk hs20 0 rfl rfl rfl rfl) (⟨r16, _, rfl, (St.keep1 (hs20.fr L1_17)), ?_, ?_⟩)
  · exact ho18
  · unfold eraseD; rw [if_neg e0, if_pos e1]; exact hd19
 have e1 : ¬ k = 1 := by have h9 := h14; simpa using h9
 refine WC.r1 hs5 [] rfl (WC.cq rfl (fun h21 qh21 => ?_) (fun h21 qh21 => ?_))
 ·have e2 : k = 2 := by have h9 := h21; simpa using h9
  refine WC.sr (WL.r 3 hs5 [1] rfl (WL.cl Tryz.call229 rfl (k63_ s _ _ _ _ o_s (hs5.ow L_s) (St.nodupL (hs5.fr L_s)) ?_ ?_) ?_))
  iterate 2 first | assumption | rfl | omega
  rintro _ whs22 ⟨r23, L1_24, rfl, hs22, ho25, hd26⟩
  replace hs22 := St.lend (hs5.fr L_s) hs22
  refine ⟨_, rfl, ?_⟩
  replace hs22 := St.back [_, _] hs22
  refine WL.st tbk hs22 0 rfl rfl (fun _ hs27 => WL.nil (WC.ret (ibR (tkR ?_))))
  clear hK6
  refine retV1 rfl (resV.cellA tbk hs27 0 rfl rfl rfl rfl) (⟨r23, _, rfl, (St.keep1 (hs27.fr L1_24)), ?_, ?_⟩)
  · exact ho25
  · unfold eraseD; rw [if_neg e0, if_neg e1, if_pos e2]; exact hd26
 have e2 : ¬ k = 2 := by have h9 := h21; simpa using h9
 refine WC.skip (hK6 _ _ (WC.sr (WL.r 1 hs5 [1] rfl (WL.st tbk hs5 0 rfl rfl (fun _ hs28 => WL.nil (WC.ret (retV1 rfl (resV.cellA tbk hs28 0 rfl rfl rfl rfl) ?_)))))))
 refine ⟨s, _, rfl, (St.keep1 (hs28.fr L_s)), ?_, ?_⟩
 · exact o_s
 · unfold eraseD; rw [if_neg e0, if_neg e1, if_neg e2]
theorem k65_ (s : ScrR) (L_s : Hp) (A_l : Option Addr) (n_l c_l : Nat) (l : List Int) (w : World) (o_s : ownScrR s L_s) (h_s : Hh w L_s) (f_l : SlF encI w A_l n_l l) (hd_ : ((L_s).map (·.1)).Nodup) (s_l : 0 < n_l → (adr A_l).block ∉ ((L_s).map (·.1))) (hf : ScrFine s.dat) (hsmB : smScr 549755813888 s.dat) (hl : areArgs l = true) (hll : n_l ≤ 549755813888) :
    Calls Tryz.prog 185 #[.agg (cScr s).toArray, .slice A_l n_l c_l] w fun e w' => ∃ r L1, e = .returned (.agg (cScr r).toArray) ∧ St w ((L_s).map (·.1)) L1 w' ∧ ownScrR r L1 ∧ r.dat = regionD s.dat l := by
 have hwh : (1 ≤ s.W ∧ s.W ≤ 120) ∧ 1 ≤ s.H ∧ s.H ≤ 120 := ⟨(isSize_bnd hf.size).1, (isSize_bnd hf.size).2.1⟩
 have hxy := hf.pos
 simp only [ScrR.dat, GridR.dat] at hxy
 have ha0 := argI_bnd (k := 0) (d := 1) hl (by omega)
 have ha1 : 0 ≤ argI l 1 s.H ∧ argI l 1 s.H ≤ 9999 := argI_bnd hl (by omega)
 refine enter 31 Tryz.func185 rfl Tryz.ntmps185 rfl rfl ?_
 have hs1 := St.takes1 w L_s h_s hd_
 refine WC.sr (WL.bx hs1 rfl (fun b2 _ hs3 => WL.al hs3 Tryz.zeroValue33 rfl rfl (fun b4 _ hs5 => WL.nil (WC.sr (WL.r 1 hs5 [] rfl ?_)))))
 refine WL.cl Tryz.call177 rfl (k60_ _ _ _ _ _ _ (SlF.st f_l hs5 s_l) ?_) ?_
 · first | assumption | rfl | omega | exact hsm2 | exact hsB2
 rintro _ whs6 ⟨rfl, hs6⟩
 replace hs6 := hs5.call0 hs6
 refine ⟨_, rfl, WL.r 2 hs6 [] rfl (WL.nil (WC.sr (WL.r 3 hs6 [1] rfl (WL.cl Tryz.call177 rfl (k61_ _ _ _ _ _ _ (SlF.st f_l hs6 s_l) ?_) ?_))))⟩
 · first | assumption | rfl | omega | exact hsm2 | exact hsB2
 rintro _ whs7 ⟨rfl, hs7⟩
 replace hs7 := hs6.call0 hs7
 refine ⟨_, rfl, WL.r 2 hs7 [] rfl (WL.nil (WC.seq (fun K8 hK8 => WC.sr (WL.r 4 hs7 [] rfl (WL.pO tbk 4 Acts.nil hs7 [1] rfl rfl rfl rfl (fun g_ => ⟨rfl, trivial⟩) (WL.nil ?_))))))⟩
 refine WC.cq rfl (fun h9 qh9 => ?_) (fun h9 qh9 => ?_)
 ·have hr : ¬ (argI l 0 1 - 1 < argI l 1 s.H - 1 ∧ argI l 1 s.H - 1 < s.H) := by rintro ⟨z1, z2⟩; have h9 := h9; simp at h9; omega
  refine WC.sr (WL.r 1 hs7 [1] rfl (WL.st tbk hs7 0 rfl rfl (fun _ hs10 => WL.nil (WC.ret (tkR ?_)))))
  clear hK8
  refine retV1 rfl (resV.cellA tbk hs10 0 rfl rfl rfl rfl) (⟨s, _, rfl, (St.keep1 (hs10.fr L_s)), ?_, ?_⟩)
  · exact o_s
  · unfold regionD; rw [if_neg (show ¬ (argI l 0 1 - 1 < argI l 1 s.dat.H - 1 ∧ argI l 1 s.dat.H - 1 < s.dat.H) from hr)]
 have hr : argI l 0 1 - 1 < argI l 1 s.H - 1 ∧ argI l 1 s.H - 1 < s.H := by have h9 := h9; simp at h9; omega
 have hf2 := hf.reg2 hl hr
 have hsm2 := fine_smB (B := 1048576) hf2 (by decide)
 have hsB2 := fine_smB (B := 549755813888) hf2 (by decide)
 refine WC.skip (hK8 _ _ (WC.sr (WL.r 2 hs7 [] rfl (WL.st tbk hs7 1 rfl rfl (fun _ hs11 => WL.nil (WC.sr (WL.r 2 hs11 [] rfl ?_)))))))
 refine WL.st tbk hs11 1 rfl rfl (fun _ hs12 => WL.nil (WC.sr (WL.r 1 hs12 [1] rfl ?_)))
 have hk14 := (ownScrR.ok (B := 549755813888) o_s (hs12.ow L_s) (by assumption))
 have hk15 := (ownScrR.ok (B := 549755813888) o_s (hs12.ow L_s) (by assumption))
 refine WL.cl Tryz.call163 rfl (k62_ (⟨s.W, s.H, ⟨s.Main.W, s.Main.H, s.Main.Cells⟩, ⟨s.Alt.W, s.Alt.H, s.Alt.Cells⟩, s.OnAlt, s.X, s.Y, s.Wrap, ⟨s.A.Fg, s.A.Bg, s.A.Bold, s.A.Under, s.A.Turn⟩, ((argI l 0 (1)) - (1)), ((argI l 1 s.H) - (1)), s.NoWrap, s.Hide, s.SaveX, s.SaveY, ⟨s.SaveA.Fg, s.SaveA.Bg, s.SaveA.Bold, s.SaveA.Under, s.SaveA.Turn⟩, s.Tabs, s.Limit, s.Back⟩ : ScrR) _ _ _ ⟨⟨hk14.Main.Cells, hk14.Main.Cells_c, hk14.Main.Cells_n⟩, ⟨hk14.Alt.Cells, hk14.Alt.Cells_c, hk14.Alt.Cells_n⟩, hk14.Tabs, hk14.Tabs_c, hk14.Tabs_n, hk14.Back, hk14.Back_c, hk14.Back_n⟩ ?_) ?_
 · first | assumption | rfl | omega | exact hsm2 | exact hsB2
 rintro _ whs13 ⟨r16, L1_17, rfl, hs13, ho18, hd19⟩
 replace hs13 := hs12.callF hs13
 refine ⟨_, rfl, ?_⟩
 replace hs13 := St.back [_, _] hs13
 refine WL.st tbk hs13 0 rfl rfl (fun _ hs20 => WL.nil (WC.ret (retV1 rfl (resV.cellA tbk hs20 0 rfl rfl rfl rfl) ?_)))
 refine ⟨r16, _, rfl, (St.keep1 (hs20.fr L1_17)), ?_, ?_⟩
 · exact ho18
 · unfold regionD; rw [if_pos (show argI l 0 1 - 1 < argI l 1 s.dat.H - 1 ∧ argI l 1 s.dat.H - 1 < s.dat.H from hr)]; exact hd19.trans (scrGo_eq hf2)
theorem k66_ (s : ScrR) (L_s : Hp) (k : Int) (w : World) (o_s : ownScrR s L_s) (h_s : Hh w L_s) (hd_ : ((L_s).map (·.1)).Nodup) (hf : ScrFine s.dat) (hsmB : smScr 549755813888 s.dat) :
    Calls Tryz.prog 186 #[.agg (cScr s).toArray, i64 k] w fun e w' => ∃ r L1, e = .returned (.agg (cScr r).toArray) ∧ St w ((L_s).map (·.1)) L1 w' ∧ ownScrR r L1 ∧ r.dat = tabsD s.dat k := by
 obtain ⟨_, _, hTl, _⟩ := ownScrR.len o_s
 have hTs : s.Tabs.xs.length ≤ 1048576 := (fine_smB (B := 1048576) hf (by decide)).2.2.1
 refine enter 40 Tryz.func186 rfl Tryz.ntmps186 rfl rfl ?_
 have hs1 := St.takes1 w L_s h_s hd_
 refine WC.sr (WL.bx hs1 rfl (fun b2 _ hs3 => WL.al hs3 Tryz.zeroValue33 rfl rfl (fun b4 _ hs5 => WL.nil (WC.sr (WL.buildF (F := encI) hs5 ([]) Tryz.runUnderlying23 Tryz.sizeOf3 Tryz.zeroValue3 rfl rfl rfl rfl rfl rfl rfl rfl rfl rfl rfl rfl (fun A9 c10 L6 whs7 hs7 ho8 => ?_))))))
 replace hs7 := St.back [_, _] hs7
 refine WL.r 1 hs7 [] rfl (WL.nil (WC.seq (fun K11 hK11 => WC.r1 hs7 [1] rfl (WC.block ?_))))
 have hM16 := (St.grp1 (L1 := L6) [] ((((hs7.fr L_s).fb b2).fb b4).fr L6))
 refine WC.lV [1, 2, 4, 10, 11] rfl hM16 (fun k_ (a_ : Hp) f => ∃ (i : Nat) (zs : List Int) (A12 : Option Addr) (c13 : Nat) (L14 : Hp), k_ = s.Tabs.n - i ∧ a_ = L14 ∧ (i ≤ s.Tabs.n) ∧ (zs = (s.Tabs.xs.take i).filter (tabP s.dat k)) ∧ (zs.length ≤ i) ∧ OwnF encI 3 (.slice A12 (zs).length c13) (zs) L14 ∧ Sub [(5, .slice A12 (zs).length c13), (12, .int .i64 i)] f) (((fun (i : Nat) (zs : List Int) => s.Tabs.n - i) (0) ([]))) ?_ ?_
 ·refine ⟨0, [], A9, c10, L6, rfl, rfl, ?_, ?_, ?_, ho8, ⟨rfl, rfl, trivial⟩⟩
  · omega
  · rfl
  · exact Nat.le_refl _
 rintro _ L14 f w ⟨i, zs, A12, c13, _, rfl, rfl, p0, p1, p2, ho15, hG⟩ hF hs17
 refine WC.sub _ (hG.app hF) ?_
 clear hG hF
 replace hs17 := St.ungrp1 [] hs17
 have hs18 := ((hs17.fb b2).fb b4)
 refine WC.r1 hs18 [] rfl (WC.seq (fun K19 hK19 => ?_))
 refine WC.cq rfl (fun h20 qh20 => ?_) (fun h20 qh20 => ?_)
 ·refine WC.skip (hK19 _ _ (WC.seq (fun K21 hK21 => WC.block (WC.sr ?_))))
  refine WL.val rfl rfl rfl (Run.idxN Tryz.runUnderlying23 Tryz.sizeOf3 rfl rfl rfl ?_ ?_ ?_) ?_
  · exact SlF.some_ (ownScrR.ok (B := 549755813888) o_s (hs18.ow L_s) (by assumption)).Tabs
  · omega
  · omega
  refine WL.val rfl rfl rfl (Run.load Tryz.isAgg3 rfl rfl (SlF.one1 (ownScrR.ok (B := 549755813888) o_s (hs18.ow L_s) (by assumption)).Tabs ?_ rfl)) ?_
  · omega
  refine WL.r 1 hs18 [] rfl (WL.nil (WC.sr (WL.r 3 hs18 [] rfl (WL.pA tbk 4 Acts.nil hs18 [1] rfl rfl rfl rfl (fun g_ => ⟨rfl, trivial⟩) (WL.r 1 hs18 [] rfl ?_)))))
  apply WL.gO 6 Acts.nil hs18 rfl
  ·intro g22 J23
   have qg22 := g22
   try simp only [bf, within_iff, within_not] at qg22
   refine WL.runA tbk 3 (Acts.nil.cons (j := 8) rfl g22) hs18 [] rfl trivial (WL.pA tbk 2 (Acts.nil.cons (j := 8) rfl g22) hs18 [] rfl rfl rfl rfl (fun g_ => trivial) (WL.eO 4 Acts.nil J23 hs18 g22 rfl rfl))
  intro _ hs24
  refine WL.nil (WC.cq rfl (fun h25 qh25 => ?_) (fun h25 qh25 => ?_))
  ·have hin : tabP s.dat k (iat s.Tabs.xs i) = true := by rw [tabP_iff]; show (k = 0 ∧ ¬ iat s.Tabs.xs i = s.X) ∨ (¬ k = 0 ∧ ¬ k = 3); have h9 := h25; simp at h9; first | exact h9 | omega
   refine WC.region (WL.r 2 hs24 [] rfl (WL.buildSlice hs24 Tryz.runUnderlying23 Tryz.sizeOf3 Tryz.zeroValue3 rfl rfl rfl rfl rfl rfl rfl rfl rfl rfl (fun b26 whs27 hs27 => ?_)))
   refine WL.appendG (hs27.fr L14) ho15 (srcI1 Tryz.underlying23 (hs27.own _ (nthL_mem (i := 0) rfl)).1) Tryz.underlying23 inf3 rfl rfl rfl rfl rfl rfl rfl rfl rfl rfl ?_ (fun A31 c32 L28 whs29 hs29 ho30 => ?_)
   · simp; omega
   replace hs29 := St.back [_, _, _] hs29
   refine WL.r 1 hs29 [] rfl (WL.nil (hK21 _ _ (WC.region (WL.r 2 hs29 [] rfl (WL.nil (tkN ?_))))))
   replace hs29 := hs29.d1
   have hF33 := (St.grp1 (L1 := L28) [] ((((hs29.fr L_s).fb b2).fb b4).fr L28))
   refine ⟨sbF rfl, _, hF33, _, ?_, i + 1, _, A31, c32, L28, rfl, rfl, ?_, ?_, ?_, ho30, ⟨rfl, rfl, trivial⟩⟩
   · omega
   · omega
   · rw [p1]; first | exact (filt_in (by omega) hin).symm | exact (filt_out (by omega) hout).symm
   · (try simp only [List.length_append, List.length_singleton]); omega
  have hout : ¬ tabP s.dat k (iat s.Tabs.xs i) = true := by rw [tabP_iff]; show ¬ ((k = 0 ∧ ¬ iat s.Tabs.xs i = s.X) ∨ (¬ k = 0 ∧ ¬ k = 3)); intro z9; have h9 := h25; simp at h9; rcases z9 with z9 | z9; exact z9.2 (h9.1 z9.1); exact z9.2 (h9.2 z9.1)
  refine WC.skip (hK21 _ _ (WC.region (WL.r 2 hs24 [] rfl (WL.nil (tkN ?_)))))
  have hF34 := (St.grp1 (L1 := L14) [] ((((hs24.fr L_s).fb b2).fb b4).fr L14))
  refine ⟨sbF rfl, _, hF34, _, ?_, i + 1, _, A12, c13, L14, rfl, rfl, ?_, ?_, ?_, ho15, ⟨rfl, rfl, trivial⟩⟩
  · omega
  · omega
  · rw [p1]; first | exact (filt_in (by omega) hin).symm | exact (filt_out (by omega) hout).symm
  · (try simp only [List.length_append, List.length_singleton]); omega
 refine WC.exit (hK11 _ _ (WC.sr (WL.r 2 hs18 [] rfl (WL.st tbk hs18 1 rfl rfl (fun _ hs35 => WL.nil (WC.sr (WL.r 1 hs35 [1] rfl ?_)))))))
 refine WL.st tbk hs35 0 rfl rfl (fun _ hs36 => WL.nil (WC.ret (retV1 rfl (resV.cellA tbk hs36 0 rfl rfl rfl rfl) ?_)))
 obtain ⟨L37, L38, L39, L40, hs45, ho41, ho42, ho43, ho44⟩ := ownScrR.op hs36 o_s
 have hs46 := ((hs45.fb b2).fb b4)
 obtain ⟨L48, hs47, ho49⟩ := ownScrR.fl hs46 ho41 ho42 ho15 ho44
 have hs50 := ((hs47.fb b2).fb b4)
 refine ownScrR.ret rfl (St.keep1 (hs50.fr L48)) ho49 ?_
 · rw [tabsD_P]; refine Eq.trans ?_ (show ({ s.dat with Tabs := zs } : ScrD) = { s.dat with Tabs := s.dat.Tabs.filter (tabP s.dat k) } from by rw [p1, List.take_of_length_le (by omega)]; rfl); rfl
theorem k67_ (s : ScrR) (L_s : Hp) (n : Int) (w : World) (o_s : ownScrR s L_s) (h_s : Hh w L_s) (hd_ : ((L_s).map (·.1)).Nodup) (hf : ScrFine s.dat) (hsmB : smScr 549755813888 s.dat) (hn : -100000 ≤ n ∧ n ≤ 100000) :
    Calls Tryz.prog 182 #[.agg (cScr s).toArray, i64 n] w fun e w' => ∃ r L1, e = .returned (.agg (cScr r).toArray) ∧ St w ((L_s).map (·.1)) L1 w' ∧ ownScrR r L1 ∧ r.dat = linesD s.dat n := by
 have hwh : (1 ≤ s.W ∧ s.W ≤ 120) ∧ 1 ≤ s.H ∧ s.H ≤ 120 := ⟨(isSize_bnd hf.size).1, (isSize_bnd hf.size).2.1⟩
 have hxy := hf.pos
 simp only [ScrR.dat, GridR.dat] at hxy
 have hrg : (0 ≤ s.Top ∧ s.Top ≤ s.Bot) ∧ s.Bot < s.H := ⟨hf.reg.1, hf.reg.2.1⟩
 have hgs : gridOk (shownR s).dat = true := by rw [shownR_dat]; exact hf.shown.1
 have hHs : (shownR s).H = s.H := by have h9 : (shownR s).H = (shownD s.dat).H := congrArg GridD.H shownR_dat; rw [h9]; exact hf.shown.2.2
 refine enter 31 Tryz.func182 rfl Tryz.ntmps182 rfl rfl ?_
 have hs1 := St.takes1 w L_s h_s hd_
 refine WC.sr (WL.bx hs1 rfl (fun b2 _ hs3 => WL.al hs3 Tryz.zeroValue33 rfl rfl (fun b4 _ hs5 => WL.nil (WC.seq (fun K6 hK6 => WC.sr (WL.r 6 hs5 [1, 1] rfl (WL.pO tbk 5 Acts.nil hs5 [1, 1] rfl rfl rfl rfl (fun g_ => ⟨rfl, rfl, trivial⟩) ?_)))))))
 refine WL.nil (WC.cq rfl (fun h7 qh7 => ?_) (fun h7 qh7 => ?_))
 ·have hwi : ¬ within s.dat.Y s.dat.Top s.dat.Bot = true := by rw [within_iff]; show ¬ (s.Top ≤ s.Y ∧ s.Y ≤ s.Bot); have h9 := h7; simp at h9; omega
  refine WC.sr (WL.r 1 hs5 [1] rfl (WL.st tbk hs5 0 rfl rfl (fun _ hs8 => WL.nil (WC.ret (tkR ?_)))))
  clear hK6
  refine retV1 rfl (resV.cellA tbk hs8 0 rfl rfl rfl rfl) (⟨s, _, rfl, (St.keep1 (hs8.fr L_s)), ?_, ?_⟩)
  · exact o_s
  · unfold linesD; rw [if_neg hwi]
 have hwi : within s.dat.Y s.dat.Top s.dat.Bot = true := by rw [within_iff]; show s.Top ≤ s.Y ∧ s.Y ≤ s.Bot; have h9 := h7; simp at h9; omega
 have hwj : s.Top ≤ s.Y ∧ s.Y ≤ s.Bot := within_iff.1 hwi
 refine WC.skip (hK6 _ _ (WC.seq (fun K9 hK9 => WC.rG 10 ((hs5.fb b2).d1.rm L_s) (hs5.rm L_s) hs5 (fun _ hs10 => ?_))))
 refine WG.rn [0, 1, 3, 4, 5, 6, 7] (hs10.rm L_s) [1, 1, 1, 1] rfl rfl (WG.o1 2 rfl rfl (WL.cl Tryz.call145 rfl (k50_ s _ (ownScrR.ok (B := 549755813888) o_s (hs10.ow L_s) (by assumption))) ?_))
 rintro _ whs11 ⟨rfl, hs11⟩
 replace hs11 := hs10.call0 hs11
 refine ⟨_, rfl, WL.nil ⟨(hs11.rm L_s), WG.o1 8 rfl rfl (WL.cl Tryz.call144 rfl (k49_ (shownR s) _ _ _ _ (okScrR.shown (ownScrR.ok (B := 549755813888) o_s (hs11.ow L_s) (by assumption))) ?_ ?_ ?_) ?_)⟩⟩
 iterate 3 first | assumption | rfl | omega
 rintro _ whs12 ⟨r13, L1_14, rfl, hs12, ho15, hd16⟩
 replace hs12 := hs11.callF hs12
 refine ⟨_, rfl, ?_⟩
 replace hs12 := St.back [_, _] hs12
 have hgr := hd16
 refine WL.nil ⟨((hs12.rm L1_14).rm L_s), WG.o1 9 rfl rfl (WL.cl Tryz.call143 rfl (k51_ s _ r13 _ _ o_s (hs12.ow L_s) ho15 (hs12.ow L1_14) (St.nodupL (St.grp2 (L1 := L_s) (L2 := L1_14) [] ((hs12.fr L1_14).fr L_s)))) ?_)⟩
 rintro _ whs17 ⟨r18, L1_19, rfl, hs17, ho20, hd21⟩
 replace hs17 := St.lend (St.grp2 (L1 := L_s) (L2 := L1_14) [] ((hs12.fr L1_14).fr L_s)) hs17
 refine ⟨_, rfl, ?_⟩
 replace hs17 := St.back [_, _] hs17
 have hpt := hd21
 refine WL.nil ⟨(hs17.rm L1_19), WG.oK rfl (WL.st tbk hs17 1 rfl rfl (fun _ hs22 => WL.nil ⟨((hs22.fb b2).d1.rm L1_19), WH.dn (hK9 _ _ (WC.sr (WL.r 1 hs22 [] rfl ?_)))⟩))⟩
 refine WL.st tbk hs22 1 rfl rfl (fun _ hs23 => WL.nil (WC.sr (WL.r 1 hs23 [] rfl (WL.st tbk hs23 1 rfl rfl (fun _ hs24 => WL.nil (WC.sr (WL.r 1 hs24 [1] rfl ?_)))))))
 refine WL.st tbk hs24 0 rfl rfl (fun _ hs25 => WL.nil (WC.ret (retV1 rfl (resV.cellA tbk hs25 0 rfl rfl rfl rfl) ?_)))
 obtain ⟨L26, L27, L28, L29, hs34, ho30, ho31, ho32, ho33⟩ := ownScrR.op hs25 ho20
 have hs35 := ((hs34.fb b2).fb b4)
 obtain ⟨L37, hs36, ho38⟩ := ownScrR.fl hs35 ho30 ho31 ho32 ho33
 have hs39 := ((hs36.fb b2).fb b4)
 refine ownScrR.ret rfl (St.keep1 (hs39.fr L37)) ho38 ?_
 · unfold linesD; rw [if_pos hwi]; show _ = ({ rollD s.dat s.Y s.Bot n with X := 0, Wrap := false } : ScrD); rw [show rollD s.dat s.Y s.Bot n = putD s.dat (gRoll (shownD s.dat) s.Y s.Bot n) from rfl, ← shownR_dat, ← hgr, ← hpt]; rfl
theorem k68_ (s : ScrR) (L_s : Hp) (n : Int) (on : Bool) (w : World) (o_s : ownScrR s L_s) (h_s : Hh w L_s) (hd_ : ((L_s).map (·.1)).Nodup) (hf : ScrFine s.dat) (hsmB : smScr 549755813888 s.dat) :
    Calls Tryz.prog 100 #[.agg (cScr s).toArray, i64 n, .bool on] w fun e w' => ∃ r L1, e = .returned (.agg (cScr r).toArray) ∧ St w ((L_s).map (·.1)) L1 w' ∧ ownScrR r L1 ∧ r.dat = modeD s.dat n on := by
 have hwh : (1 ≤ s.W ∧ s.W ≤ 120) ∧ 1 ≤ s.H ∧ s.H ≤ 120 := ⟨(isSize_bnd hf.size).1, (isSize_bnd hf.size).2.1⟩
 have hxy := hf.pos
 simp only [ScrR.dat, GridR.dat] at hxy
 have hsz : isSize s.W s.H = true := hf.size
 have hf3 : ScrFine { s.dat with OnAlt := false } := ⟨hf.gM, hf.gA, hf.dim, hf.pos, hf.sav, hf.wrp, hf.aA, hf.aS, hf.reg, hf.lim, hf.tab, hf.row⟩
 have hsB3 := fine_smB (B := 549755813888) hf3 (by decide)
 refine enter 54 Tryz.func100 rfl Tryz.ntmps100 rfl rfl ?_
 have hs1 := St.takes1 w L_s h_s hd_
 refine WC.sr (WL.bx hs1 rfl (fun b2 _ hs3 => WL.al hs3 Tryz.zeroValue33 rfl rfl (fun b4 _ hs5 => WL.nil (WC.seq (fun K6 hK6 => WC.r1 hs5 [] rfl (WC.block (WC.r1 hs5 [] rfl ?_)))))))
 refine WC.cq rfl (fun h7 qh7 => ?_) (fun h7 qh7 => ?_)
 ·have e7 : n = 7 := by have h9 := h7; simpa using h9
  refine WC.sr (WL.r 3 hs5 [] rfl (WL.st tbk hs5 1 rfl rfl (fun _ hs8 => WL.nil (WC.region (WL.r 3 hs8 [1] rfl (WL.pA tbk 1 Acts.nil hs8 [] rfl rfl rfl rfl (fun g_ => trivial) (WL.r 1 hs8 [] rfl ?_)))))))
  refine WL.st tbk hs8 1 rfl rfl (fun _ hs9 => WL.nil (hK6 _ _ (WC.sr (WL.r 1 hs9 [1] rfl (WL.st tbk hs9 0 rfl rfl (fun _ hs10 => WL.nil (WC.ret ?_)))))))
  refine retV1 rfl (resV.cellA tbk hs10 0 rfl rfl rfl rfl) ?_
  obtain ⟨L11, L12, L13, L14, hs19, ho15, ho16, ho17, ho18⟩ := ownScrR.op hs10 o_s
  have hs20 := ((hs19.fb b2).fb b4)
  obtain ⟨L22, hs21, ho23⟩ := ownScrR.fl hs20 ho15 ho16 ho17 ho18
  have hs24 := ((hs21.fb b2).fb b4)
  refine ownScrR.ret rfl (St.keep1 (hs24.fr L22)) ho23 ?_
  · unfold modeD; rw [if_pos e7]; rfl
 have e7 : ¬ n = 7 := by have h9 := h7; simpa using h9
 refine WC.r1 hs5 [] rfl (WC.cq rfl (fun h25 qh25 => ?_) (fun h25 qh25 => ?_))
 ·have e25 : n = 25 := by have h9 := h25; simpa using h9
  refine WC.region (WL.r 3 hs5 [] rfl (WL.st tbk hs5 1 rfl rfl (fun _ hs26 => WL.nil (hK6 _ _ (WC.sr (WL.r 1 hs26 [1] rfl (WL.st tbk hs26 0 rfl rfl (fun _ hs27 => ?_))))))))
  refine WL.nil (WC.ret (retV1 rfl (resV.cellA tbk hs27 0 rfl rfl rfl rfl) ?_))
  obtain ⟨L28, L29, L30, L31, hs36, ho32, ho33, ho34, ho35⟩ := ownScrR.op hs27 o_s
  have hs37 := ((hs36.fb b2).fb b4)
  obtain ⟨L39, hs38, ho40⟩ := ownScrR.fl hs37 ho32 ho33 ho34 ho35
  have hs41 := ((hs38.fb b2).fb b4)
  refine ownScrR.ret rfl (St.keep1 (hs41.fr L39)) ho40 ?_
  · unfold modeD; rw [if_neg e7, if_pos e25]; rfl
 have e25 : ¬ n = 25 := by have h9 := h25; simpa using h9
 refine WC.r1 hs5 [] rfl (WC.cq rfl (fun h42 qh42 => ?_) (fun h42 qh42 => ?_))
 ·have e1049 : n = 1049 := by have h9 := h42; simpa using h9
  refine WC.sr (WL.r 2 hs5 [] rfl (WL.pA tbk 3 Acts.nil hs5 [1] rfl rfl rfl rfl (fun g_ => ⟨rfl, trivial⟩) (WL.nil (WC.cq rfl (fun h43 qh43 => ?_) (fun h43 qh43 => ?_)))))
  ·have a1 : (n = 1049 ∧ on = true) ∧ s.dat.OnAlt = false := by show (n = 1049 ∧ on = true) ∧ s.OnAlt = false; have h9 := h43; simp at h9; exact ⟨⟨e1049, h9.1⟩, h9.2⟩
   refine WC.sr (WL.r 1 hs5 [1] rfl (WL.cl Tryz.call67 rfl (k58_ s _ _ o_s (hs5.ow L_s) (St.nodupL (hs5.fr L_s))) ?_))
   rintro _ whs44 ⟨r45, L1_46, rfl, hs44, ho47, hd48⟩
   replace hs44 := St.lend (hs5.fr L_s) hs44
   refine ⟨_, rfl, ?_⟩
   replace hs44 := St.back [_, _] hs44
   have hsv := hd48
   have hrW : r45.W = s.W := congrArg ScrD.W hsv
   have hrH : r45.H = s.H := congrArg ScrD.H hsv
   refine WL.st tbk hs44 1 rfl rfl (fun _ hs49 => WL.nil (WC.sr (WL.r 4 hs49 [1, 1] rfl (WL.cl Tryz.call146 rfl (k28_ _ _ _) ?_))))
   rintro _ whs50 ⟨r0_51, L0_52, rfl, hs50, ho53, hd0_54⟩
   replace hs50 := hs49.callF hs50
   refine ⟨_, rfl, ?_⟩
   replace hs50 := St.back [_, _] hs50
   refine WL.r 4 hs50 [] rfl (WL.st tbk hs50 1 rfl rfl (fun _ hs55 => WL.nil (WC.region (WL.r 1 hs55 [] rfl (WL.st tbk hs55 1 rfl rfl (fun _ hs56 => WL.nil (hK6 _ _ ?_)))))))
   refine WC.sr (WL.r 1 hs56 [1] rfl (WL.st tbk hs56 0 rfl rfl (fun _ hs57 => WL.nil (WC.ret (retV1 rfl (resV.cellA tbk hs57 0 rfl rfl rfl rfl) ?_)))))
   obtain ⟨L58, L59, L60, L61, hs66, ho62, ho63, ho64, ho65⟩ := ownScrR.op hs57 ho47
   have hs67 := ((hs66.fb b2).fb b4)
   obtain ⟨L69, hs68, ho70⟩ := ownScrR.fl hs67 ho62 ho53 ho64 ho65
   have hs71 := ((hs68.fb b2).fb b4)
   refine ownScrR.ret rfl (St.keep1 (hs71.fr L69)) ho70 ?_
   · unfold modeD; rw [if_neg e7, if_neg e25, if_pos a1]; show _ = ({ saveD s.dat with Alt := gridNew s.W s.H, OnAlt := true } : ScrD); rw [← gridRes_eq hsz, ← hrW, ← hrH, ← hd0_54, ← hsv]; rfl
  have a1 : ¬ ((n = 1049 ∧ on = true) ∧ s.dat.OnAlt = false) := by show ¬ ((n = 1049 ∧ on = true) ∧ s.OnAlt = false); rintro ⟨⟨z1, z2⟩, z3⟩; have h9 := h43; simp [z2, z3] at h9
  refine WC.sr (WL.r 3 hs5 [] rfl (WL.pA tbk 2 Acts.nil hs5 [1] rfl rfl rfl rfl (fun g_ => ⟨rfl, trivial⟩) (WL.nil (WC.cq rfl (fun h72 qh72 => ?_) (fun h72 qh72 => ?_)))))
  ·have a2 : (n = 1049 ∧ on = false) ∧ s.dat.OnAlt = true := by show (n = 1049 ∧ on = false) ∧ s.OnAlt = true; have h9 := h72; simp at h9; exact ⟨⟨e1049, h9.1⟩, h9.2⟩
   refine WC.sr (WL.r 1 hs5 [] rfl (WL.st tbk hs5 1 rfl rfl (fun _ hs73 => WL.nil (WC.region (WL.r 1 hs73 [1] rfl ?_)))))
   obtain ⟨L74, L75, L76, L77, hs82, ho78, ho79, ho80, ho81⟩ := ownScrR.op hs73 o_s
   have hs83 := ((hs82.fb b2).fb b4)
   obtain ⟨L85, hs84, ho86⟩ := ownScrR.fl hs83 ho78 ho79 ho80 ho81
   have hs87 := ((hs84.fb b2).fb b4)
   refine WL.cl Tryz.call68 rfl (k59_ ⟨s.W, s.H, ⟨s.Main.W, s.Main.H, SlD.of ho78⟩, ⟨s.Alt.W, s.Alt.H, SlD.of ho79⟩, false, s.X, s.Y, s.Wrap, ⟨s.A.Fg, s.A.Bg, s.A.Bold, s.A.Under, s.A.Turn⟩, s.Top, s.Bot, s.NoWrap, s.Hide, s.SaveX, s.SaveY, ⟨s.SaveA.Fg, s.SaveA.Bg, s.SaveA.Bold, s.SaveA.Under, s.SaveA.Turn⟩, SlD.of ho80, s.Limit, SlD.ofN ho81⟩ _ _ (by exact ho86) (hs87.ow L85) (St.nodupL (hs87.fr L85))) ?_
   rintro _ whs88 ⟨r89, L1_90, rfl, hs88, ho91, hd92⟩
   replace hs88 := St.lend (hs87.fr L85) hs88
   refine ⟨_, rfl, ?_⟩
   replace hs88 := St.back [_, _] hs88
   refine WL.st tbk hs88 1 rfl rfl (fun _ hs93 => WL.nil (hK6 _ _ (WC.sr (WL.r 1 hs93 [1] rfl (WL.st tbk hs93 0 rfl rfl (fun _ hs94 => WL.nil (WC.ret ?_)))))))
   refine retV1 rfl (resV.cellA tbk hs94 0 rfl rfl rfl rfl) (⟨r89, _, rfl, (St.keep1 (hs94.fr L1_90)), ?_, ?_⟩)
   · exact ho91
   · unfold modeD; rw [if_neg e7, if_neg e25, if_neg a1, if_pos a2]; exact hd92
  have a2 : ¬ ((n = 1049 ∧ on = false) ∧ s.dat.OnAlt = true) := by show ¬ ((n = 1049 ∧ on = false) ∧ s.OnAlt = true); rintro ⟨⟨z1, z2⟩, z3⟩; have h9 := h72; simp [z2, z3] at h9
  refine WC.skip (hK6 _ _ (WC.sr (WL.r 1 hs5 [1] rfl (WL.st tbk hs5 0 rfl rfl (fun _ hs95 => WL.nil (WC.ret (retV1 rfl (resV.cellA tbk hs95 0 rfl rfl rfl rfl) ?_)))))))
  refine ⟨s, _, rfl, (St.keep1 (hs95.fr L_s)), ?_, ?_⟩
  · exact o_s
  · unfold modeD; rw [if_neg e7, if_neg e25, if_neg a1, if_neg a2]
 have e1049 : ¬ n = 1049 := by have h9 := h42; simpa using h9
 refine WC.skip (hK6 _ _ (WC.sr (WL.r 1 hs5 [1] rfl (WL.st tbk hs5 0 rfl rfl (fun _ hs96 => WL.nil (WC.ret (retV1 rfl (resV.cellA tbk hs96 0 rfl rfl rfl rfl) ?_)))))))
 refine ⟨s, _, rfl, (St.keep1 (hs96.fr L_s)), ?_, ?_⟩
 · exact o_s
 · unfold modeD; rw [if_neg e7, if_neg e25, if_neg (fun h9 => e1049 h9.1.1), if_neg (fun h9 => e1049 h9.1.1)]
theorem k69_ (g : GridR) (top : Int) (bot : Int) (n : Int) (w : World) (f_g : okGridR 549755813888 w g) (hg : gridOk g.dat = true) (ht : 0 ≤ top ∧ top ≤ bot ∧ bot < g.H) (hn : -100000 ≤ n ∧ n ≤ 100000) :
    Calls Tryz.prog 249 #[.agg #[i64 g.W, i64 g.H, .slice g.Cells.A g.Cells.n g.Cells.c], i64 top, i64 bot, i64 n] w fun e w' => ∃ r L1, e = .returned (.agg #[i64 r.W, i64 r.H, .slice r.Cells.A r.Cells.n r.Cells.c]) ∧ St w [] L1 w' ∧ ownGridR r L1 ∧ r.dat = gRoll g.dat top bot n := by
 have nb_g_Cells := f_g.Cells_n
 have nl_g_Cells := f_g.Cells.len
 have hgb : (1 ≤ g.W ∧ g.W ≤ 120) ∧ (1 ≤ g.H ∧ g.H ≤ 120) ∧ 1 ≤ g.W * g.H ∧ g.W * g.H ≤ 4000 := gridOk_bnd hg
 have hgl : (g.Cells.xs.length : Int) = g.W * g.H := grid_len hg
 have hsmg : smGrid 1048576 g.dat := by show g.Cells.xs.length ≤ 1048576; omega
 refine enter 48 Tryz.func249 rfl Tryz.ntmps249 rfl rfl ?_
 have hs1 := St.init w
 refine WC.sr (WL.bx hs1 rfl (fun b2 _ hs3 => WL.al hs3 Tryz.zeroValue28 rfl rfl (fun b4 _ hs5 => WL.nil (WC.sr (WL.r 1 hs5 [1] rfl ?_)))))
 refine WL.cl Tryz.call206 rfl (k43_ g _ (okGridR.st0 f_g hs5) ?_) ?_
 · first | assumption | rfl | omega
 rintro _ whs6 ⟨r7, L1_8, rfl, hs6, ho9, hd10⟩
 replace hs6 := hs5.callF hs6
 refine ⟨_, rfl, ?_⟩
 replace hs6 := St.back [_, _] hs6
 skip
 refine WL.al hs6 Tryz.zeroValue28 rfl rfl (fun b11 _ hs12 => WL.st tbk hs12 0 rfl rfl (fun _ hs13 => WL.nil (WC.seq (fun K14 hK14 => WC.r1 hs13 [] rfl (WC.block ?_)))))
 have hM19 := (St.grp1 (L1 := L1_8) [_] ((((hs13.fb b2).fb b4).fr L1_8).fb b11))
 refine WC.lV [1, 2, 3, 4, 8, 9] rfl hM19 (fun k_ (a_ : Hp) f => ∃ (a : Nat) (r : GridR) (L17 : Hp), k_ = (bot - top + 1).toNat - a ∧ a_ = [(b11, .cells (List.toArray [i64 r.W, i64 r.H, .slice r.Cells.A r.Cells.n r.Cells.c]) 28 (0, 0))] ++ L17 ∧ (top + (a : Int) ≤ bot + 1) ∧ (r.W = g.W ∧ r.H = g.H ∧ r.Cells.xs.length = g.Cells.xs.length) ∧ (∀ k, k < g.Cells.xs.length → cat r.Cells.xs k = partF g.dat (rollF g.dat top bot n) (top.toNat * g.W.toNat) (a * g.W.toNat) k) ∧ ownGridR r L17 ∧ Sub [(10, .int .i64 (top + a))] f) (((fun (a : Nat) => (bot - top + 1).toNat - a) (0))) ?_ ?_
 ·refine ⟨0, r7, L1_8, rfl, rfl, ?_, ?_, ?_, ho9, ⟨?_, trivial⟩⟩
  · omega
  · exact ⟨congrArg GridD.W hd10, congrArg GridD.H hd10, congrArg (fun d : GridD => d.Cells.length) hd10⟩
  · intro k hk; rw [Nat.zero_mul, partF_zero]; exact congrArg (fun d : GridD => cat d.Cells k) hd10
  · (refine congrArg some (congrArg (Value.int _) ?_); omega)
 rintro _ _ f w ⟨a, r, L17, rfl, rfl, p0, p1, p2, ho18, hG⟩ hF hs20
 refine WC.sub _ (hG.app hF) ?_
 clear hG hF
 replace hs20 := St.ungrp1 [_] hs20
 have hs21 := (((hs20.fb b2).fb b4).fb b11)
 have hsmr : smGrid 549755813888 r.dat := by show r.Cells.xs.length ≤ 549755813888; omega
 refine WC.seq (fun K22 hK22 => WC.r1 hs21 [] rfl ?_)
 refine WC.cq rfl (fun h23 qh23 => ?_) (fun h23 qh23 => ?_)
 ·have hab : top + (a : Int) ≤ bot := by omega
  have hv0 : 0 ≤ (top + (a : Int)) * g.W := Int.mul_nonneg (by omega) (by omega)
  have hv1 : (top + (a : Int) + 1) * g.W = (top + (a : Int)) * g.W + g.W := by rw [Int.add_mul, Int.one_mul]
  have hv2 : (top + (a : Int) + 1) * g.W ≤ g.H * g.W := Int.mul_le_mul_of_nonneg_right (by omega) (by omega)
  rw [Int.mul_comm g.H g.W] at hv2
  have hrw : r.W = g.W := p1.1
  have hz0 : (top + (a : Int)) * r.W = (top + (a : Int)) * g.W := by rw [hrw]
  have hz1 : (top + (a : Int) + 1) * r.W = (top + (a : Int) + 1) * g.W := by rw [hrw]
  have hnr := ownGridR.len ‹ownGridR r _›
  have hcr := OwnF.cap ‹ownGridR r _›
  have hlr := f_g.Cells.len
  have hcg := f_g.Cells_c
  have hlo0 : ((top + (a : Int)) * r.W).toNat = (top.toNat + a) * g.W.toNat := by rw [hrw, Int.toNat_mul (by omega) (by omega)]; congr 1; omega
  have hmm1 : ((top + (a : Int) + 1) * r.W).toNat - ((top + (a : Int)) * r.W).toNat = g.W.toNat := by rw [hz0, hz1]; omega
  refine WC.skip (hK22 _ _ (WC.seq (fun K24 hK24 => WC.block (WC.r1 hs21 [] rfl (WC.sr (WL.r 1 hs21 [] rfl (WL.cl Tryz.call97 rfl (k0_ _ _ _ _) ?_)))))))
  rintro _ whs25 ⟨rfl, hs25⟩
  replace hs25 := hs21.call0 hs25
  refine ⟨_, rfl, WL.r 1 hs25 [] rfl ?_⟩
  apply WL.gA 4 Acts.nil hs25 rfl
  ·intro g26 J27
   have qg26 := g26
   try simp only [bf, within_iff, within_not] at qg26
   refine WL.runA tbk 3 (Acts.nil.cons (j := 2) rfl g26) hs25 [] rfl trivial (WL.call (wantT rfl g26) rfl rfl (Run.call Tryz.call97 rfl rfl rfl) (k0_ _ _ _ _) ?_)
   rintro _ whs28 ⟨rfl, hs28⟩
   replace hs28 := hs25.call0 hs28
   refine ⟨_, rfl, WL.eA 4 Acts.nil J27 hs28 g26 rfl rfl⟩
  intro _ hs29
  refine WL.nil (WC.cq rfl (fun h30 qh30 => ?_) (fun h30 qh30 => ?_))
  ·have hin : top ≤ top + (a : Int) + n ∧ top + (a : Int) + n ≤ bot := by have h9 := h30; simp only [Bool.and_eq_true, within_iff] at h9; omega
   have hu0 : 0 ≤ (top + (a : Int) + n) * g.W := Int.mul_nonneg (by omega) (by omega)
   have hu1 : (top + (a : Int) + n + 1) * g.W = (top + (a : Int) + n) * g.W + g.W := by rw [Int.add_mul, Int.one_mul]
   have hu2 : (top + (a : Int) + n + 1) * g.W ≤ g.H * g.W := Int.mul_le_mul_of_nonneg_right (by omega) (by omega)
   rw [Int.mul_comm g.H g.W] at hu2
   have hsrc : ((top + (a : Int) + n + 1) * g.W).toNat - ((top + (a : Int) + n) * g.W).toNat = g.W.toNat := by omega
   refine WC.rH (hs29.rm L17) hs29 (fun _ hs31 => ?_)
   refine WH.rn [0, 1, 3, 4] (hs31.rm L17) [0, 2] rfl rfl (WH.o1 2 rfl (WL.cl Tryz.call224 rfl (k46_ r _ _ (ownGridR.ok (B := 549755813888) ho18 (hs31.ow L17) hsmr) ?_ ?_ ?_ ?_) ?_))
   iterate 4 first | assumption | rfl | omega
   rintro _ whs32 ⟨rfl, hs32⟩
   replace hs32 := hs31.call0 hs32
   refine ⟨_, rfl, WL.nil ⟨(hs32.rm L17), WH.o1 5 rfl (WL.cl Tryz.call224 rfl (k46_ g _ _ (okGridR.st0 f_g hs32) ?_ ?_ ?_ ?_) ?_)⟩⟩
   iterate 4 first | assumption | rfl | omega
   rintro _ whs33 ⟨rfl, hs33⟩
   replace hs33 := hs32.call0 hs33
   refine ⟨_, rfl, WL.nil ⟨(hs33.rm L17), WH.o1 6 rfl ?_⟩⟩
   refine WL.copyF (lo := ((top + (a : Int)) * r.W).toNat) (hs33.fr L17) ho18 (SlF.cutC (lo := (((top + (a : Int)) + n) * g.W).toNat) (hi := ((((top + (a : Int)) + n) + 1) * g.W).toNat) (SlF.st0 f_g.Cells hs33) (by refine ⟨?_, ?_, ?_⟩ <;> (omega))) Tryz.underlying26 Tryz.underlying26 inf75 rfl rfl rfl rfl rfl rfl rfl (.inl rfl) ?_ ?_ (fun L34 _ hs35 ho36 => ?_)
   · omega
   · omega
   replace hs35 := St.back [_, _, _] hs35
   refine WL.nil ⟨(hs35.rm L34), WH.dn (hK24 _ _ (WC.region (WL.r 3 hs35 [] rfl (WL.nil (tkN ?_)))))⟩
   have hF37 := (St.grp1 (L1 := L34) [_] ((((hs35.fb b2).fb b4).fr L34).fb b11))
   refine ⟨sbF rfl, _, hF37, _, ?_, a + 1, ⟨r.W, r.H, SlD.of ho36⟩, L34, rfl, rfl, ?_, ?_, ?_, ho36, ⟨?_, trivial⟩⟩
   · omega
   · omega
   · exact ⟨p1.1, p1.2.1, by simp only [List.length_append, List.length_take, List.length_drop]; omega⟩
   · intro k hk; show cat _ k = partF g.dat (rollF g.dat top bot n) (top.toNat * g.dat.W.toNat) ((a + 1) * g.dat.W.toNat) k; first | exact roll_row ht.1 hlo0 (by show _ = g.W.toNat; (try simp only [List.length_replicate]); omega) (by first | (simp only [List.length_take, List.length_drop]; omega) | (simp only [List.length_replicate]; omega)) (by (try simp only [List.length_replicate]); omega) (by omega) hab (fun j hj => by have _ := hin; rw [if_pos hin]; exact roll_src (by omega) (by show 0 ≤ g.W; omega) rfl hsrc hj) (p2 k hk) | exact roll_row ht.1 hlo0 (by show _ = g.W.toNat; (try simp only [List.length_replicate]); omega) (by first | (simp only [List.length_take, List.length_drop]; omega) | (simp only [List.length_replicate]; omega)) (by (try simp only [List.length_replicate]); omega) (by omega) hab (fun j hj => by rw [if_neg hout]; exact cat_rep hj) (p2 k hk)
   · (refine congrArg some (congrArg (Value.int _) ?_); omega)
  have hout : ¬ (top ≤ top + (a : Int) + n ∧ top + (a : Int) + n ≤ bot) := by intro h8; have h9 := h30; simp [within] at h9; omega
  refine WC.rH (hs29.rm L17) hs29 (fun _ hs38 => ?_)
  refine WH.rn [0, 1, 5, 6] (hs38.rm L17) [0, 2] rfl rfl (WH.o1 2 rfl (WL.cl Tryz.call224 rfl (k46_ r _ _ (ownGridR.ok (B := 549755813888) ho18 (hs38.ow L17) hsmr) ?_ ?_ ?_ ?_) ?_))
  iterate 4 first | assumption | rfl | omega
  rintro _ whs39 ⟨rfl, hs39⟩
  replace hs39 := hs38.call0 hs39
  refine ⟨_, rfl, WL.nil ⟨(hs39.rm L17), WH.o1 3 rfl (WL.cl Tryz.call253 rfl (k19_ _) ?_)⟩⟩
  rintro _ whs40 ⟨rfl, hs40⟩
  replace hs40 := hs39.call0 hs40
  refine ⟨_, rfl, WL.nil ⟨(hs40.rm L17), WH.o1 4 rfl (WL.buildF (F := encCell) hs40 ([blankC]) Tryz.runUnderlying26 Tryz.sizeOf75 Tryz.zeroValue75 rfl rfl rfl rfl rfl rfl rfl rfl rfl rfl rfl rfl (fun A44 c45 L41 whs42 hs42 ho43 => ?_))⟩⟩
  replace hs42 := St.back [_, _, _] hs42
  refine WL.nil ⟨((hs42.rm L41).rm L17), WH.o1 7 rfl (WL.cl Tryz.call252 rfl (k23_ _ _ _ _ _ _ (SlF.ofOwn ho43 (hs42.ow L41)) ?_ ?_) ?_)⟩
  iterate 2 first | assumption | rfl | omega
  rintro _ whs46 ⟨A47, c48, L1_49, rfl, hs46, ho50⟩
  replace hs46 := hs42.callF hs46
  refine ⟨_, rfl, ?_⟩
  replace hs46 := St.back [_, _, _] hs46
  refine WL.nil ⟨(((hs46.rm L1_49).rm L41).rm L17), WH.o1 8 rfl (WL.copyF (lo := ((top + (a : Int)) * r.W).toNat) (hs46.fr L17) ho18 (SlF.ofOwn ho50 (hs46.ow L1_49)) Tryz.underlying26 Tryz.underlying26 inf75 rfl rfl rfl rfl rfl rfl rfl (.inl rfl) ?_ ?_ (fun L51 _ hs52 ho53 => ?_))⟩
  · omega
  · omega
  replace hs52 := St.back [_, _, _] hs52
  refine WL.nil ⟨(((hs52.rm L51).rm L1_49).rm L41), WH.dn (hK24 _ _ (WC.region (WL.r 3 hs52 [] rfl (WL.nil (tkN ?_)))))⟩
  replace hs52 := ((hs52.rm L1_49).rm L41)
  have hF54 := (St.grp1 (L1 := L51) [_] ((((hs52.fb b2).fb b4).fr L51).fb b11))
  refine ⟨sbF rfl, _, hF54, _, ?_, a + 1, ⟨r.W, r.H, SlD.of ho53⟩, L51, rfl, rfl, ?_, ?_, ?_, ho53, ⟨?_, trivial⟩⟩
  · omega
  · omega
  · exact ⟨p1.1, p1.2.1, by simp only [List.length_append, List.length_take, List.length_drop]; omega⟩
  · intro k hk; show cat _ k = partF g.dat (rollF g.dat top bot n) (top.toNat * g.dat.W.toNat) ((a + 1) * g.dat.W.toNat) k; first | exact roll_row ht.1 hlo0 (by show _ = g.W.toNat; (try simp only [List.length_replicate]); omega) (by first | (simp only [List.length_take, List.length_drop]; omega) | (simp only [List.length_replicate]; omega)) (by (try simp only [List.length_replicate]); omega) (by omega) hab (fun j hj => by have _ := hin; rw [if_pos hin]; exact roll_src (by omega) (by show 0 ≤ g.W; omega) rfl hsrc hj) (p2 k hk) | exact roll_row ht.1 hlo0 (by show _ = g.W.toNat; (try simp only [List.length_replicate]); omega) (by first | (simp only [List.length_take, List.length_drop]; omega) | (simp only [List.length_replicate]; omega)) (by (try simp only [List.length_replicate]); omega) (by omega) hab (fun j hj => by rw [if_neg hout]; exact cat_rep hj) (p2 k hk)
  · (refine congrArg some (congrArg (Value.int _) ?_); omega)
 refine WC.exit (hK14 _ _ (WC.sr (WL.r 1 hs21 [0] rfl (WL.st tbk hs21 1 rfl rfl (fun _ hs55 => WL.nil (WC.ret (retV1 rfl (resV.cellA tbk hs55 1 rfl rfl rfl rfl) ?_)))))))
 refine ⟨r, _, rfl, (St.keep1 (hs55.fr L17)), ?_, ?_⟩
 · exact ho18
 · exact roll_done hg ht.1 ht.2.1 ht.2.2 (m := n) (by omega) p1.1 p1.2.1 p1.2.2 (.inl rfl) p2
open Go Go.RowKit Go.Shelf
theorem frozen_of_heap {w : World} {b k : Nat} {cl : List Value} {e : TypeId} {lo hi : Nat} (h : w.heap[b]? = some (.cells cl.toArray e (lo, hi))) (hf : hi ≤ lo ∨ hi ≤ k ∨ k < lo) : w.frozen? ⟨b, k, none⟩ = false := by
 simp only [World.frozen?, h, Bool.and_eq_false_iff, decide_eq_false_iff_not]
 omega
theorem some_of_heap {w : World} {b k : Nat} {cl : List Value} {e : TypeId} {fz : Nat × Nat} (h : w.heap[b]? = some (.cells cl.toArray e fz)) (hk : k < cl.length) : (w.cell? ⟨b, k, none⟩).isSome = true := by
 rw [cell_of_heap (v := cl[k]) h (by simp [hk])]; rfl
theorem St.setCells (P : Program) {w0 w : World} {T : List Nat} {L : Hp} (hst : St w0 T L w) (i : Nat) {b off : Nat} {cl vs : List Value} {e : TypeId} {lo hi : Nat} (hi' : nthL L i = some (b, .cells cl.toArray e (lo, hi))) (h1 : ∀ v, v ∈ vs → v.oneCell' = true) (hlt : off + vs.length ≤ cl.length) (hfz : hi ≤ lo ∨ hi ≤ off ∨ off + vs.length ≤ lo) :
  St w0 T (setL L i (.cells (cl.take off ++ vs ++ cl.drop (off + vs.length)).toArray e (lo, hi))) (w.setCells b off vs) := by
 obtain ⟨w', hr, hs⟩ := hst.stored (P := P) i (off := off) hi' h1 hlt hfz
 have hh := (hst.own _ (nthL_mem hi')).1
 have h2 := run_storeCells_cells (P := P) b off vs 0 w (fun j hj => by rw [Nat.add_zero]; exact some_of_heap hh (by omega)) (fun j hj => by rw [Nat.add_zero]; exact frozen_of_heap hh (by omega)) h1
 rw [hr] at h2
 injection h2 with _ h3
 rw [Nat.add_zero] at h3
 exact h3 ▸ hs
section
variable {α : Type} {P Q R : List α} {x : α}
theorem ins_shift (hR : 1 ≤ R.length) :
  ((P ++ Q ++ R).take (P.length + 1) ++ Q ++ (P ++ Q ++ R).drop (P.length + 1 + Q.length)).take P.length ++ [x] ++ ((P ++ Q ++ R).take (P.length + 1) ++ Q ++ (P ++ Q ++ R).drop (P.length + 1 + Q.length)).drop (P.length + 1) = P ++ [x] ++ Q ++ R.drop 1 := by
 have hQR : ((Q ++ R).take 1).length = 1 := by rw [List.length_take, List.length_append]; omega
 have e1 : (P ++ Q ++ R).take (P.length + 1) = P ++ (Q ++ R).take 1 := by rw [List.append_assoc, List.take_length_add_append]
 have e2 : (P ++ Q ++ R).drop (P.length + 1 + Q.length) = R.drop 1 := by rw [show P.length + 1 + Q.length = (P ++ Q).length + 1 by rw [List.length_append]; omega, List.drop_length_add_append]
 rw [e1, e2]
 have e3 : (P ++ (Q ++ R).take 1 ++ Q ++ R.drop 1).take P.length = P := by rw [List.append_assoc, List.append_assoc]; exact List.take_left
 have e4 : (P ++ (Q ++ R).take 1 ++ Q ++ R.drop 1).drop (P.length + 1) = Q ++ R.drop 1 := by
  rw [List.append_assoc (P ++ _), List.drop_left' (by rw [List.length_append]; omega)]
 rw [e3, e4]
 simp only [List.append_assoc]
theorem ins_new (Z : List α) (hZ : Q.length + 1 ≤ Z.length) :
  (((P ++ Z).take P.length ++ [x] ++ (P ++ Z).drop (P.length + 1)).take (P.length + 1) ++ Q ++ ((P ++ Z).take P.length ++ [x] ++ (P ++ Z).drop (P.length + 1)).drop (P.length + 1 + Q.length)) = P ++ [x] ++ Q ++ Z.drop (Q.length + 1) := by
 have e0 : (P ++ Z).take P.length ++ [x] ++ (P ++ Z).drop (P.length + 1) = (P ++ [x]) ++ Z.drop 1 := by
  rw [List.take_left, List.drop_length_add_append]
 have hp : (P ++ [x]).length = P.length + 1 := by simp
 rw [e0, ← hp, List.take_left, List.drop_length_add_append, List.drop_drop, Nat.add_comm 1]
end
theorem rowsI : ∀ l : List Int, rows encI l = l.map (Value.int .i64)
 | [] => rfl
 | x :: l => by rw [rows_cons, rowsI l]; rfl
section
variable {P : Program} {ρ : Ren} {w : World}
theorem search_rd (L : Lays2.n25 P ρ) {A : Option Addr} {n c : Nat} {s : List Int} {x : Int} (f_s : SlF encI w A n s) (hasc : s.Pairwise (· ≤ ·)) (hn : n ≤ 1048576) :
  Calls P (ρ.f 25) #[.slice A n c, .int .i64 x] w fun e w' => e = .returned (.tuple #[.int .i64 (s.countP (· < x) : Nat), .bool (s.contains x)]) ∧ St w [] [] w' := by
 have hl := f_s.len
 by_cases h0 : n = 0
 ·subst h0
  obtain rfl : s = [] := List.eq_nil_of_length_eq_zero hl
  refine (Any.slices_BinarySearch_int_empty L A c x w).mono ?_
  rintro e w' ⟨rfl, rfl⟩
  exact ⟨rfl, St.init _⟩
 ·have hr := f_s.rd
  have hat : ∀ j, (hj : j < s.length) → (rows encI s)[j]? = some (.int .i64 (s.getD j 0)) := fun j hj => by
   rw [rowsI, List.getElem?_map, List.getElem?_eq_getElem hj, List.getD_eq_getElem?_getD, List.getElem?_eq_getElem hj]
   rfl
  cases A with
  | none => have := hr.some_ (by omega); cases this
  | some a =>
   obtain ⟨b, off, sp⟩ := a
   cases sp with
   | some q =>
    have h1 := hr.cell 0 _ (hat 0 (by omega))
    have e1 : (adr (some ⟨b, off, some q⟩)).add 0 = ⟨b, off, some q⟩ := by unfold adr Addr.add; split <;> simp_all
    rw [e1] at h1
    unfold World.cell? at h1
    split at h1 <;> simp at h1
   | none =>
    refine (Any.slices_BinarySearch_int L b off n c s x w (by omega) (by omega) (fun j hj => ?_) (by rw [List.take_of_length_le (by omega)]; exact hasc)).mono ?_
    ·have h1 := hr.cell j _ (hat j hj)
     rwa [show (adr (some ⟨b, off, none⟩)).add j = ⟨b, off + j, none⟩ from addr_at b off j] at h1
    ·rintro e w' ⟨rfl, q, rfl⟩
     rw [List.take_of_length_le (by omega)]
     exact ⟨rfl, ⟨rfl, rfl, rfl, Nat.le_refl _, fun _ _ _ => rfl, fun _ h => (by cases h), List.nodup_nil⟩⟩
theorem insert_own (L : Lays2.n21 P ρ) {v : Value} {s : List Int} {Ls : Hp} {i b c0 : Nat} {x : Int} (o_s : OwnF encI (ρ.t 3) v s Ls) (h_s : ∀ p, p ∈ Ls → w.heap[p.1]? = some p.2) (hi : i ≤ s.length) (hn : s.length ≤ 1048576) (hb : w.heap[b]? = some (.cells [Value.int .i64 x].toArray (ρ.t 3) (0, 0))) (hne : b ∉ Ls.map (·.1)) :
  Calls P (ρ.f 21) #[v, .int .i64 i, .slice (some ⟨b, 0, none⟩) 1 c0] w fun e w' => ∃ A c L1, e = .returned (.slice A (s.length + 1) c) ∧ St w (Ls.map (·.1)) L1 w' ∧ OwnF encI (ρ.t 3) (.slice A (s.length + 1) c) (s.take i ++ [x] ++ s.drop i) L1 := by
 have hst : St w (Ls.map (·.1)) Ls w := St.take w Ls h_s o_s.keys
 have hl : (s.take i ++ [x] ++ s.drop i).length = s.length + 1 := by simp; omega
 have hvs : ∀ j u, [Value.int .i64 x][j]? = some u → w.cell? ⟨b, 0 + j, none⟩ = some u := fun j u hj => by rw [Nat.zero_add]; exact cell_of_heap hb hj
 have h1v : ∀ u ∈ [Value.int .i64 x], u.oneCell' = true := by intro u hu; rw [List.mem_singleton] at hu; subst hu; rfl
 have hsa : w.shape? b = some (ρ.t 3, 1) := by simp [World.shape?, hb]
 have hfa : w.frozen? ⟨b, 0, none⟩ = false := frozen_of_heap hb (by omega)
 have hfe : w.frozen? ⟨b, 1, none⟩ = false := frozen_of_heap hb (by omega)
 have hml : maxLen = 9223372036854775807 := rfl
 -- the parts
 generalize hP : s.take i = p at hl ⊢
 generalize hQ : s.drop i = q at hl ⊢
 have hpq : s = p ++ q := by rw [← hP, ← hQ, List.take_append_drop]
 have hpl : p.length = i := by rw [← hP, List.length_take]; omega
 have hql : q.length = s.length - i := by rw [← hQ, List.length_drop]
 have rl : ∀ l : List Int, (rows encI l).length = l.length := fun l => by rw [rows_len]; exact Nat.mul_one _
 have hrow : rows encI (p ++ [x] ++ q) = rows encI p ++ [Value.int .i64 x] ++ rows encI q := by rw [rows_append, rows_append]; rfl
 have hrl := rl (p ++ [x] ++ q)
 have hrs : rows encI s = rows encI p ++ rows encI q := by rw [hpq, rows_append]
 have htp : (rows encI p ++ rows encI q).take i = rows encI p := List.take_left' (by rw [rl]; exact hpl)
 have hdp : (rows encI p ++ rows encI q).drop i = rows encI q := List.drop_left' (by rw [rl]; exact hpl)
 have rp := rl p
 have rq := rl q
 have hz : ∀ n, (Builtin.zeroCells (Value.int .i64 0).cells n).toList.length = n := fun n => by rw [Array.length_toList, size_zeroCells]; exact Nat.mul_one _
 -- a block that is ours
 have fin : ∀ (w' : World) (g cap lo hi' : Nat) (pre cl : List Value), St w (Ls.map (·.1)) ([(g, .cells (pre ++ cl).toArray (ρ.t 3) (lo, hi'))]) w' → cl.length = cap → s.length + 1 ≤ cap → cap ≤ maxLen → cl.take (s.length + 1) = rows encI (p ++ [x] ++ q) → (hi' ≤ lo ∨ (pre ++ cl).length ≤ lo) →
   ∃ A c L1, (Ending.returned (.slice (some ⟨g, pre.length, none⟩) (s.length + 1) cap)) = .returned (.slice A (s.length + 1) c) ∧ St w (Ls.map (·.1)) L1 w' ∧ OwnF encI (ρ.t 3) (.slice A (s.length + 1) c) (p ++ [x] ++ q) L1 := by
  intro w' g cap lo hi' pre cl hs h1 h2 h3 h4 h5
  refine ⟨_, _, _, rfl, hs, by rw [rows_len], .inr ⟨g, cap, pre.length, pre, cl, (lo, hi'), by rw [hl], rfl, by rw [hl]; exact h2, h3, by rw [h1]; exact (Nat.mul_one _).symm, ?_, h5, rfl⟩⟩
  rw [hl, ← h4]; exact congrArg (fun k => cl.take k) (Nat.mul_one _)
 have growEnd : ∀ (A : Option Addr) (cap : Nat), i = s.length → s.length ≤ cap → cap < s.length + 1 → (A = none → s.length = 0) → (∀ a, A = some a → ∀ j u, (rows encI p ++ rows encI q)[j]? = some u → w.cell? (a.add j) = some u) →
   Calls P (ρ.f 21) #[.slice A s.length cap, .int .i64 i, .slice (some ⟨b, 0, none⟩) 1 c0] w fun e w' => ∃ A c L1, e = .returned (.slice A (s.length + 1) c) ∧ St w (Ls.map (·.1)) L1 w' ∧ OwnF encI (ρ.t 3) (.slice A (s.length + 1) c) (p ++ [x] ++ q) L1 := by
  intro A cap e1 h1 h2 h3 h4
  rw [show ((i : Nat) : Int) = ((s.length : Nat) : Int) by rw [e1]]
  refine (Any2.slices_Insert_int_end_grow L A s.length cap b 0 1 c0 (rows encI p ++ rows encI q) [.int .i64 x] w (by omega) h1 h2 (by omega) (by rw [List.length_append]; omega) rfl h3 h4 hvs h1v).mono ?_
  rintro e w' ⟨rfl, rfl⟩
  have hq0 : q = [] := List.eq_nil_of_length_eq_zero (by omega)
  have hge := grownCap_ge w (s.length + 1) cap (ρ.t 3)
  have hcm : grownCap w (s.length + 1) cap (ρ.t 3) ≤ maxLen := grownCap_le_maxLen w (s.length + 1) cap (ρ.t 3) (by omega)
  have ec : ((rows encI p ++ rows encI q ++ [Value.int .i64 x]).toArray ++ Builtin.zeroCells (Value.int .i64 0).cells (grownCap w (s.length + 1) cap (ρ.t 3) - (s.length + 1))) = ([] ++ (rows encI (p ++ [x] ++ q) ++ (Builtin.zeroCells (Value.int .i64 0).cells (grownCap w (s.length + 1) cap (ρ.t 3) - (s.length + 1))).toList)).toArray := by
   rw [hrow, hq0]; apply Array.toList_inj.1; simp [rows_nil]
  rw [ec]
  refine fin _ w.heap.size _ 0 0 [] (rows encI (p ++ [x] ++ q) ++ (Builtin.zeroCells (Value.int .i64 0).cells (grownCap w (s.length + 1) cap (ρ.t 3) - (s.length + 1))).toList) ?_ ?_ hge hcm (List.take_left' (by omega)) (.inl (Nat.le_refl _))
  ·exact (hst.drew.alloc _).drop (List.Sublist.cons_cons _ (List.nil_sublist _))
  ·rw [List.length_append, hrl, hl, hz]
   omega
 rcases o_s.2 with ⟨⟨A, rfl⟩, h0, rfl⟩ | ⟨g, cap, o, pre, cl, ⟨lo, hi'⟩, rfl, rfl, hnc, hcm, hcl, htk, hfz, rfl⟩
 ·have h2 := growEnd A 0 (by omega) (by omega) (by omega) (fun _ => h0) (fun a _ j u hj => by
   rw [List.getElem?_eq_none (by rw [List.length_append]; omega)] at hj; cases hj)
  rwa [h0] at h2 ⊢
 ·have hh := h_s _ List.mem_cons_self
  simp only at hh hfz
  have hcl' : cl.length = cap := by rw [hcl]; exact Nat.mul_one _
  have htk' : cl.take s.length = rows encI p ++ rows encI q := by rw [← hrs, ← htk]; exact congrArg (fun k => cl.take k) (Nat.mul_one _).symm
  have hpc : (pre ++ cl).length = pre.length + cl.length := List.length_append
  have hcs : ∀ j u, (rows encI p ++ rows encI q)[j]? = some u → w.cell? ⟨g, pre.length + j, none⟩ = some u := fun j u hj => by
   refine cell_of_heap hh ?_
   rw [List.getElem?_append_right (by omega), show pre.length + j - pre.length = j by omega, ← hj, ← htk', List.getElem?_take]
   have hj2 := (List.getElem?_eq_some_iff.1 hj).1
   rw [List.length_append] at hj2
   rw [if_pos (by omega)]
  have hgb : b ≠ g := fun h9 => hne (by rw [h9]; exact List.mem_cons_self)
  by_cases hroom : s.length + 1 ≤ cap
  ·obtain ⟨r, hr⟩ : ∃ r, cl = rows encI p ++ rows encI q ++ r := ⟨cl.drop s.length, by rw [← htk', List.take_append_drop]⟩
   have hrlen : r.length = cap - s.length := by
    have h9 := congrArg List.length hr
    rw [List.length_append, List.length_append] at h9
    omega
   by_cases he : i = s.length
   ·rw [show ((i : Nat) : Int) = ((s.length : Nat) : Int) by rw [he]]
    refine (Any2.slices_Insert_int_end_room L g pre.length s.length cap b 0 1 c0 [.int .i64 x] w (by omega) hroom (by omega) rfl (fun j hj => some_of_heap hh (by omega)) (fun j hj => frozen_of_heap hh (by omega)) hvs h1v).mono ?_
    rintro e w' ⟨rfl, rfl⟩
    have h2 := St.setCells P hst 0 (off := pre.length + s.length) (vs := [.int .i64 x]) rfl h1v (by simp only [List.length_singleton]; omega) (by simp only [List.length_singleton]; omega)
    rw [splice_pre] at h2
    have hq0 : q = [] := List.eq_nil_of_length_eq_zero (by omega)
    refine fin _ g cap lo hi' pre _ h2 ?_ hroom hcm ?_ ?_
    ·simp only [List.length_append, List.length_take, List.length_drop, List.length_singleton]; omega
    ·rw [htk', hrow, hq0, rows_nil, List.append_nil, List.append_nil]
     exact List.take_left' (by rw [List.length_append, rl, List.length_singleton, hpl, he])
    ·simp only [List.length_append, List.length_take, List.length_drop, List.length_singleton]; omega
   ·refine (Any2.slices_Insert_int_shift L g pre.length s.length cap i b 0 1 c0 (rows encI p ++ rows encI q) [.int .i64 x] w (by omega) (by omega) hroom (by omega) hgb (by rw [List.length_append]; omega) rfl hcs (fun j hj => some_of_heap hh (by omega)) (fun j hj => frozen_of_heap hh (by omega)) hvs (fun u hu => by rw [← rows_append] at hu; exact rows_one u hu) h1v (ρ.t 3) (ρ.t 3) 1 (pre ++ cl).length hsa (by simp [World.shape?, hh]) (by omega) hfa hfe).mono ?_
    rintro e w' ⟨rfl, rfl⟩
    rw [hdp]
    have h2 := St.setCells P hst.drew 0 (off := pre.length + (i + 1)) (vs := rows encI q) rfl rows_one (by omega) (by omega)
    rw [splice_pre] at h2
    have h3 := St.setCells P h2 0 (off := pre.length + i) (vs := [.int .i64 x]) rfl h1v (by simp only [List.length_append, List.length_take, List.length_drop, List.length_singleton]; omega) (by simp only [List.length_append, List.length_take, List.length_drop, List.length_singleton]; omega)
    rw [splice_pre] at h3
    have e9 := ins_shift (P := rows encI p) (Q := rows encI q) (R := r) (x := Value.int .i64 x) (by omega)
    rw [← hr, rp, hpl] at e9
    have e8 : cl.take i ++ [Value.int .i64 x] ++ cl.drop (i + 1) = cl.take i ++ [Value.int .i64 x] ++ cl.drop (i + 1) := rfl
    refine fin _ g cap lo hi' pre _ h3 ?_ hroom hcm ?_ ?_
    ·simp only [List.length_append, List.length_take, List.length_drop, List.length_singleton]; omega
    ·rw [show [Value.int .i64 x].length = 1 from rfl, e9, hrow]
     exact List.take_left' (by simp only [List.length_append, List.length_singleton]; omega)
    ·simp only [List.length_append, List.length_take, List.length_drop, List.length_singleton]; omega
  ·by_cases he : i = s.length
   ·exact growEnd _ cap he hnc (by omega) (fun h9 => by cases h9) (fun a ha j u hj => by cases ha; rw [addr_at]; exact hcs j u hj)
   ·refine (Any2.slices_Insert_int_grow L g pre.length s.length cap i b 0 1 c0 (rows encI p ++ rows encI q) [.int .i64 x] w (by omega) (by omega) hnc (by omega) (by omega) (by rw [List.length_append]; omega) rfl hcs hvs (fun u hu => by rw [← rows_append] at hu; exact rows_one u hu) h1v).mono ?_
    rintro e w' ⟨rfl, rfl⟩
    rw [hdp, htp]
    have hge := grownCap_ge w (s.length + 1) cap (ρ.t 3)
    have hcm : grownCap w (s.length + 1) cap (ρ.t 3) ≤ maxLen := grownCap_le_maxLen w (s.length + 1) cap (ρ.t 3) (by omega)
    obtain ⟨Z, hZ⟩ : ∃ Z : List Value, Z = (Builtin.zeroCells (Value.int .i64 0).cells (s.length + 1 - i)).toList ++ (Builtin.zeroCells (Value.int .i64 0).cells (grownCap w (s.length + 1) cap (ρ.t 3) - (s.length + 1))).toList := ⟨_, rfl⟩
    have hZl : Z.length = grownCap w (s.length + 1) cap (ρ.t 3) - i := by
     rw [hZ, List.length_append, hz, hz]
     omega
    have ec : ((rows encI p).toArray ++ Builtin.zeroCells (Value.int .i64 0).cells (s.length + 1 - i) ++ Builtin.zeroCells (Value.int .i64 0).cells (grownCap w (s.length + 1) cap (ρ.t 3) - (s.length + 1))) = (rows encI p ++ Z).toArray := by
     rw [hZ]; apply Array.toList_inj.1; simp
    rw [ec]
    have h1 := hst.alloc (.cells (rows encI p ++ Z).toArray (ρ.t 3) (0, 0))
    have h2 := St.setCells P h1.drew 0 (off := i) (vs := [.int .i64 x]) rfl h1v (by simp only [List.length_append, List.length_singleton]; omega) (.inl (Nat.le_refl _))
    have h3 := St.setCells P h2.drew 0 (off := i + 1) (vs := rows encI q) rfl rows_one (by simp only [List.length_append, List.length_take, List.length_drop, List.length_singleton]; omega) (.inl (Nat.le_refl _))
    have e9 := ins_new (P := rows encI p) (Q := rows encI q) (x := Value.int .i64 x) Z (by omega)
    rw [rp, hpl] at e9
    rw [show [Value.int .i64 x].length = 1 from rfl, e9] at h3
    refine fin _ w.heap.size _ 0 0 [] (rows encI p ++ [Value.int .i64 x] ++ rows encI q ++ Z.drop ((rows encI q).length + 1)) (h3.drop (List.Sublist.cons_cons _ (List.nil_sublist _))) ?_ hge hcm ?_ (.inl (Nat.le_refl _))
    ·simp only [List.length_append, List.length_singleton, List.length_drop]; omega
    ·rw [hrow]
     exact List.take_left' (by simp only [List.length_append, List.length_singleton]; omega)
end
def lays25_ren : Go.Shelf.Ren := ⟨fun | 25 => 155 | 31 => 211 | 32 => 212 | 37 => 250 | n => n, fun | 0 => 0 | 3 => 3 | 4 => 4 | 22 => 23 | 40 => 219 | n => n, fun n => n⟩
theorem lays25 : Go.Proofs.Lays2.n25 Tryz.prog lays25_ren := {
  mixed := by kernel_rfl
  f25 := Tryz.func155.trans (congrArg some (by kernel_rfl))
  f31 := Tryz.func211.trans (congrArg some (by kernel_rfl))
  f32 := Tryz.func212.trans (congrArg some (by kernel_rfl))
  f37 := Tryz.func250.trans (congrArg some (by kernel_rfl))
  t0 := Tryz.underlying0
  a0 := Tryz.isAgg0
  z0 := Tryz.sizeOf0
  v0 := Tryz.zeroValue0
  t3 := Tryz.underlying3
  a3 := Tryz.isAgg3
  z3 := Tryz.sizeOf3
  v3 := Tryz.zeroValue3
  t4 := Tryz.underlying4
  a4 := Tryz.isAgg4
  z4 := Tryz.sizeOf4
  v4 := Tryz.zeroValue4
  t22 := Tryz.underlying23
  a22 := Tryz.isAgg23
  z22 := Tryz.sizeOf23
  v22 := Tryz.zeroValue23
  t40 := Tryz.underlying219
  a40 := Tryz.isAgg219
  z40 := Tryz.sizeOf219
  v40 := Tryz.zeroValue219 }
def lays21_ren : Go.Shelf.Ren := ⟨fun | 21 => 156 | 27 => 213 | 28 => 214 | 35 => 251 | 39 => 261 | n => n, fun | 0 => 0 | 3 => 3 | 4 => 4 | 22 => 23 | n => n, fun n => n⟩
theorem lays21 : Go.Proofs.Lays2.n21 Tryz.prog lays21_ren := {
  mixed := by kernel_rfl
  f21 := Tryz.func156.trans (congrArg some (by kernel_rfl))
  f27 := Tryz.func213.trans (congrArg some (by kernel_rfl))
  f28 := Tryz.func214.trans (congrArg some (by kernel_rfl))
  f35 := Tryz.func251.trans (congrArg some (by kernel_rfl))
  f39 := Tryz.func261.trans (congrArg some (by kernel_rfl))
  t0 := Tryz.underlying0
  a0 := Tryz.isAgg0
  z0 := Tryz.sizeOf0
  v0 := Tryz.zeroValue0
  t3 := Tryz.underlying3
  a3 := Tryz.isAgg3
  z3 := Tryz.sizeOf3
  v3 := Tryz.zeroValue3
  t4 := Tryz.underlying4
  a4 := Tryz.isAgg4
  z4 := Tryz.sizeOf4
  v4 := Tryz.zeroValue4
  t22 := Tryz.underlying23
  a22 := Tryz.isAgg23
  z22 := Tryz.sizeOf23
  v22 := Tryz.zeroValue23
  i3 := by kernel_rfl }
theorem k70_ (A_s : Option Addr) (n_s c_s : Nat) (s : List Int) (x : Int) (w : World) (f_s : SlF encI w A_s n_s s) (hp : s.Pairwise (· ≤ ·)) (hn : n_s ≤ 1048576) :
    Calls Tryz.prog 155 #[.slice A_s n_s c_s, i64 x] w fun e w' => e = .returned (.tuple #[i64 (lowb s x), .bool (decide (x ∈ s))]) ∧ St w [] [] w' := by
 refine (search_rd lays25 f_s hp hn).mono ?_
 rintro e w' ⟨rfl, h1⟩
 refine ⟨?_, h1⟩
 rw [countP_lowb, List.contains_eq_mem]
theorem k71_ (v_s : Value) (s : List Int) (L_s : Hp) (i : Nat) (b_v : Nat) (x : Int) (w : World) (o_s : OwnF encI 3 v_s s L_s) (h_s : Hh w L_s) (hv : w.heap[b_v]? = some (.cells [Value.int .i64 x].toArray 3 (0, 0))) (hvn : b_v ∉ L_s.map (·.1)) (hi : i ≤ s.length) (hn : s.length ≤ 1048576) :
    Calls Tryz.prog 156 #[v_s, .int .i64 i, .slice (some ⟨b_v, 0, none⟩) 1 1] w fun e w' => ∃ A c L1, e = .returned (.slice A (s.length + 1) c) ∧ St w (L_s.map (·.1)) L1 w' ∧ OwnF encI 3 (.slice A (s.length + 1) c) (insL s i x) L1 := by
 exact (insert_own lays21 o_s h_s hi hn hv hvn).mono fun e w' h => h
theorem k72_ (A_l : Option Addr) (n_l c_l : Nat) (l : List Int) (x : Int) (w : World) (f_l : SlF encI w A_l n_l l) (hn : n_l ≤ 549755813888) :
    Calls Tryz.prog 69 #[.slice A_l n_l c_l, i64 x] w fun e w' => e = .returned (.bool (l.contains x)) ∧ St w [] [] w' := by
 have hl := f_l.len
 refine enter 17 Tryz.func69 rfl Tryz.ntmps69 rfl rfl ?_
 have hs1 := St.init w
 refine WC.r1 hs1 [] rfl (WC.seq (fun K2 hK2 => WC.r1 hs1 [] rfl (WC.block ?_)))
 refine WC.lS [1, 7, 8] rfl hs1 (fun k_ f w' => ∃ (i : Nat), k_ = n_l - i ∧ (i ≤ n_l) ∧ (∀ j, j < i → iat l j ≠ x) ∧ Sub [(9, .int .i64 i)] f) ((fun (i : Nat) => n_l - i) (0)) ?_ ?_
 ·refine ⟨0, rfl, ?_, ?_, ⟨rfl, trivial⟩⟩
  · exact Nat.zero_le _
  · exact fun j hj => absurd hj (by omega)
 clear hs1
 rintro _ f w ⟨i, rfl, p0, p1, hG⟩ hF hs3
 refine WC.sub _ (hG.app hF) ?_
 clear hG hF
 refine WC.r1 hs3 [] rfl (WC.seq (fun K4 hK4 => ?_))
 refine WC.cD rfl (fun qh5 => ?_) (fun qh5 => ?_)
 ·refine WC.skip (hK4 _ _ (WC.seq (fun K6 hK6 => WC.block (WC.sr ?_))))
  refine WL.val rfl rfl rfl (Run.idxN Tryz.runUnderlying23 Tryz.sizeOf3 rfl rfl rfl ?_ ?_ ?_) ?_
  · exact SlF.some_ (SlF.st0 f_l hs3)
  · omega
  · omega
  refine WL.val rfl rfl rfl (Run.load Tryz.isAgg3 rfl rfl (SlF.one1 (SlF.st0 f_l hs3) ?_ rfl)) ?_
  · omega
  refine WL.r 1 hs3 [] rfl (WL.nil (WC.r1 hs3 [] rfl (WC.cD rfl (fun qh7 => ?_) (fun qh7 => ?_))))
  ·refine WC.r1 hs3 [] rfl (WC.ret (ibR (tkR (tkR (ibR (tkR ?_))))))
   clear hK6 hK2
   refine rtv rfl rfl hs3 ?_
   congr 1; symm; rw [List.contains_iff_mem]; rw [← qh7]; exact gat_mem (F := encI) (by omega)
  refine WC.skip (hK6 _ _ (WC.region (WL.r 2 hs3 [] rfl (WL.nil (tkN ?_)))))
  refine ⟨sbF rfl, hs3, _, ?_, i + 1, rfl, ?_, ?_, ⟨rfl, trivial⟩⟩
  · omega
  · omega
  · intro j hj; rcases Nat.lt_or_ge j i with h_ | h_
    · exact p1 j h_
    · obtain rfl : j = i := by omega
      exact qh7
 refine WC.exit (hK2 _ _ (WC.r1 hs3 [] rfl (WC.ret (rtv rfl rfl hs3 ?_))))
 congr 1; symm; rw [← Bool.not_eq_true, List.contains_iff_mem]; exact int_not (fun j hj => p1 j (by omega))
theorem built_30 : Tryz.prog.built 30 [] = some (List.toArray [.int .i64 0, .int .i64 0, .bool false, .bool false, .bool false]) := by kernel_rfl
theorem k73_ (b_a : Nat) (a : AttrD) (n : Int) (w : World) (hb : w.heap[b_a]? = some (Obj.cells (List.toArray [i64 a.Fg, i64 a.Bg, .bool a.Bold, .bool a.Under, .bool a.Turn]) 30 (0, 0))) (hn : 0 ≤ n ∧ n ≤ 9999) :
    Calls Tryz.prog 255 #[.pointer (some ⟨b_a, 0, none⟩), i64 n] w fun e w' => e = .returned (.tuple #[]) ∧ St w [b_a] [(b_a, Obj.cells (List.toArray [i64 (sgrOne a n).Fg, i64 (sgrOne a n).Bg, .bool (sgrOne a n).Bold, .bool (sgrOne a n).Under, .bool (sgrOne a n).Turn]) 30 (0, 0))] w' := by
 refine enter 74 Tryz.func255 rfl Tryz.ntmps255 rfl rfl ?_
 have hs1 := St.take1 w b_a _ hb
 refine WC.block (WC.r1 hs1 [] rfl (WC.cq rfl (fun h2 qh2 => ?_) (fun h2 qh2 => ?_)))
 ·have e0 : n = 0 := by have h9 := h2; (try simp only [within_iff] at h9); first | exact h9 | (simp at h9; omega)
  refine WC.region (WL.r 1 hs1 [] rfl ?_)
  refine WL.val rfl rfl rfl (Run.build rfl rfl rfl rfl (built_30)) (WL.r 1 hs1 [] rfl (WL.st tbk hs1 0 rfl rfl (fun _ hs3 => WL.nil (ibN (retK0 rfl (⟨rfl, ?_⟩))))))
  unfold sgrOne
  rw [if_pos e0]
  exact hs3
 have e0 : ¬ (n = 0) := by have h9 := h2; (try simp only [within_not] at h9); first | exact h9 | (simp at h9; omega)
 refine WC.sr (WL.r 3 hs1 [] rfl (WL.pO tbk 2 Acts.nil hs1 [] rfl rfl rfl rfl (fun g_ => trivial) (WL.r 1 hs1 [] rfl (WL.nil (WC.cq rfl (fun h4 qh4 => ?_) (fun h4 qh4 => ?_))))))
 ·have e1 : n = 1 ∨ n = 22 := by have h9 := h4; (try simp only [within_iff] at h9); first | exact h9 | (simp at h9; omega)
  refine WC.region (WL.r 5 hs1 [] rfl (WL.st tbk hs1 0 rfl rfl (fun _ hs5 => WL.nil (ibN (retK0 rfl (⟨rfl, ?_⟩))))))
  unfold sgrOne
  rw [if_neg e0, if_pos e1]
  exact hs5
 have e1 : ¬ (n = 1 ∨ n = 22) := by have h9 := h4; (try simp only [within_not] at h9); first | exact h9 | (simp at h9; omega)
 refine WC.sr (WL.r 3 hs1 [] rfl (WL.pO tbk 2 Acts.nil hs1 [] rfl rfl rfl rfl (fun g_ => trivial) (WL.r 1 hs1 [] rfl (WL.nil (WC.cq rfl (fun h6 qh6 => ?_) (fun h6 qh6 => ?_))))))
 ·have e4 : n = 4 ∨ n = 24 := by have h9 := h6; (try simp only [within_iff] at h9); first | exact h9 | (simp at h9; omega)
  refine WC.region (WL.r 5 hs1 [] rfl (WL.st tbk hs1 0 rfl rfl (fun _ hs7 => WL.nil (ibN (retK0 rfl (⟨rfl, ?_⟩))))))
  unfold sgrOne
  rw [if_neg e0, if_neg e1, if_pos e4]
  exact hs7
 have e4 : ¬ (n = 4 ∨ n = 24) := by have h9 := h6; (try simp only [within_not] at h9); first | exact h9 | (simp at h9; omega)
 refine WC.sr (WL.r 3 hs1 [] rfl (WL.pO tbk 2 Acts.nil hs1 [] rfl rfl rfl rfl (fun g_ => trivial) (WL.r 1 hs1 [] rfl (WL.nil (WC.cq rfl (fun h8 qh8 => ?_) (fun h8 qh8 => ?_))))))
 ·have e7 : n = 7 ∨ n = 27 := by have h9 := h8; (try simp only [within_iff] at h9); first | exact h9 | (simp at h9; omega)
  refine WC.region (WL.r 5 hs1 [] rfl (WL.st tbk hs1 0 rfl rfl (fun _ hs9 => WL.nil (ibN (retK0 rfl (⟨rfl, ?_⟩))))))
  unfold sgrOne
  rw [if_neg e0, if_neg e1, if_neg e4, if_pos e7]
  exact hs9
 have e7 : ¬ (n = 7 ∨ n = 27) := by have h9 := h8; (try simp only [within_not] at h9); first | exact h9 | (simp at h9; omega)
 refine WC.sr (WL.r 1 hs1 [] rfl (WL.cl Tryz.call97 rfl (k0_ _ _ _ _) ?_))
 rintro _ whs10 ⟨rfl, hs10⟩
 replace hs10 := hs1.call0 hs10
 refine ⟨_, rfl, WL.r 1 hs10 [] rfl (WL.nil (WC.cq rfl (fun h11 qh11 => ?_) (fun h11 qh11 => ?_)))⟩
 ·have e30 : 30 ≤ n ∧ n ≤ 37 := by have h9 := h11; (try simp only [within_iff] at h9); first | exact h9 | (simp at h9; omega)
  refine WC.region (WL.r 5 hs10 [] rfl (WL.st tbk hs10 0 rfl rfl (fun _ hs12 => WL.nil (ibN (retK0 rfl (⟨rfl, ?_⟩))))))
  unfold sgrOne
  rw [if_neg e0, if_neg e1, if_neg e4, if_neg e7, if_pos e30]
  exact hs12
 have e30 : ¬ (30 ≤ n ∧ n ≤ 37) := by have h9 := h11; (try simp only [within_not] at h9); first | exact h9 | (simp at h9; omega)
 refine WC.r1 hs10 [] rfl (WC.cq rfl (fun h13 qh13 => ?_) (fun h13 qh13 => ?_))
 ·have e39 : n = 39 := by have h9 := h13; (try simp only [within_iff] at h9); first | exact h9 | (simp at h9; omega)
  refine WC.region (WL.r 3 hs10 [] rfl (WL.st tbk hs10 0 rfl rfl (fun _ hs14 => WL.nil (ibN (retK0 rfl (⟨rfl, ?_⟩))))))
  unfold sgrOne
  rw [if_neg e0, if_neg e1, if_neg e4, if_neg e7, if_neg e30, if_pos e39]
  exact hs14
 have e39 : ¬ (n = 39) := by have h9 := h13; (try simp only [within_not] at h9); first | exact h9 | (simp at h9; omega)
 refine WC.sr (WL.r 1 hs10 [] rfl (WL.cl Tryz.call97 rfl (k0_ _ _ _ _) ?_))
 rintro _ whs15 ⟨rfl, hs15⟩
 replace hs15 := hs10.call0 hs15
 refine ⟨_, rfl, WL.r 1 hs15 [] rfl (WL.nil (WC.cq rfl (fun h16 qh16 => ?_) (fun h16 qh16 => ?_)))⟩
 ·have e40 : 40 ≤ n ∧ n ≤ 47 := by have h9 := h16; (try simp only [within_iff] at h9); first | exact h9 | (simp at h9; omega)
  refine WC.region (WL.r 5 hs15 [] rfl (WL.st tbk hs15 0 rfl rfl (fun _ hs17 => WL.nil (ibN (retK0 rfl (⟨rfl, ?_⟩))))))
  unfold sgrOne
  rw [if_neg e0, if_neg e1, if_neg e4, if_neg e7, if_neg e30, if_neg e39, if_pos e40]
  exact hs17
 have e40 : ¬ (40 ≤ n ∧ n ≤ 47) := by have h9 := h16; (try simp only [within_not] at h9); first | exact h9 | (simp at h9; omega)
 refine WC.r1 hs15 [] rfl (WC.cq rfl (fun h18 qh18 => ?_) (fun h18 qh18 => ?_))
 ·have e49 : n = 49 := by have h9 := h18; (try simp only [within_iff] at h9); first | exact h9 | (simp at h9; omega)
  refine WC.region (WL.r 3 hs15 [] rfl (WL.st tbk hs15 0 rfl rfl (fun _ hs19 => WL.nil (ibN (retK0 rfl (⟨rfl, ?_⟩))))))
  unfold sgrOne
  rw [if_neg e0, if_neg e1, if_neg e4, if_neg e7, if_neg e30, if_neg e39, if_neg e40, if_pos e49]
  exact hs19
 have e49 : ¬ (n = 49) := by have h9 := h18; (try simp only [within_not] at h9); first | exact h9 | (simp at h9; omega)
 refine WC.skip (ibN (retK0 rfl (⟨rfl, ?_⟩)))
 unfold sgrOne
 rw [if_neg e0, if_neg e1, if_neg e4, if_neg e7, if_neg e30, if_neg e39, if_neg e40, if_neg e49]
 exact hs15
theorem k74_ (a_Fg : Int) (a_Bg : Int) (a_Bold : Bool) (a_Under : Bool) (a_Turn : Bool) (A_l : Option Addr) (n_l c_l : Nat) (l : List Int) (w : World) (f_l : SlF encI w A_l n_l l) (hl : areArgs l = true) (hn : n_l ≤ 549755813888) :
    Calls Tryz.prog 238 #[.agg #[i64 a_Fg, i64 a_Bg, .bool a_Bold, .bool a_Under, .bool a_Turn], .slice A_l n_l c_l] w fun e w' => ∃ r : AttrD, e = .returned (.agg #[i64 r.Fg, i64 r.Bg, .bool r.Bold, .bool r.Under, .bool r.Turn]) ∧ St w [] [] w' ∧ r = sgrRes (⟨a_Fg, a_Bg, a_Bold, a_Under, a_Turn⟩ : AttrD) l := by
 have hll := f_l.len
 refine enter 25 Tryz.func238 rfl Tryz.ntmps238 rfl rfl ?_
 have hs1 := St.init w
 refine WC.sr (WL.bx hs1 rfl (fun b2 _ hs3 => WL.al hs3 Tryz.zeroValue30 rfl rfl (fun b4 _ hs5 => WL.nil (WC.seq (fun K6 hK6 => WC.sr (WL.r 1 hs5 [1] rfl (WL.cl Tryz.call95 rfl (k3_ _ _ _ _ _ _) ?_)))))))
 rintro _ whs7 ⟨rfl, hs7⟩
 replace hs7 := hs5.call0 hs7
 refine ⟨_, rfl, WL.r 1 hs7 [] rfl (WL.nil (WC.cq rfl (fun h8 qh8 => ?_) (fun h8 qh8 => ?_)))⟩
 ·have hk : ¬ (attrOk a_Fg a_Bg = true ∧ 0 < l.length) := by rintro ⟨z7, z8⟩; have h9 := h8; first | (simp [z7] at h9; omega) | (simp [z7] at h9)
  refine WC.sr ?_
  refine WL.val rfl rfl rfl (Run.build rfl rfl rfl rfl (built_30)) (WL.st tbk hs7 0 rfl rfl (fun _ hs9 => WL.nil (WC.ret (tkR ?_))))
  clear hK6
  refine retV1 rfl (resV.cellA tbk hs9 0 rfl rfl rfl rfl) ?_
  exact ⟨⟨0, 0, false, false, false⟩, rfl, hs9.nil, by unfold sgrRes; rw [if_neg hk]⟩
 have hc0 := h8
 refine WC.skip (hK6 _ _ (WC.seq (fun K10 hK10 => WC.r1 hs7 [] rfl ?_)))
 refine WC.cq rfl (fun h11 qh11 => ?_) (fun h11 qh11 => ?_)
 ·have hk : ¬ (attrOk a_Fg a_Bg = true ∧ 0 < l.length) := by rintro ⟨z7, z8⟩; have h9 := h11; first | (simp [z7] at h9; omega) | (simp [z7] at h9)
  refine WC.sr ?_
  refine WL.val rfl rfl rfl (Run.build rfl rfl rfl rfl (built_30)) (WL.st tbk hs7 0 rfl rfl (fun _ hs12 => WL.nil (WC.ret (tkR ?_))))
  clear hK10
  refine retV1 rfl (resV.cellA tbk hs12 0 rfl rfl rfl rfl) ?_
  exact ⟨⟨0, 0, false, false, false⟩, rfl, hs12.nil, by unfold sgrRes; rw [if_neg hk]⟩
 have hc1 := h11
 have hk2 : attrOk a_Fg a_Bg = true ∧ 0 < l.length := by (try simp at hc0); (try simp at hc1); first | exact ⟨hc0, by omega⟩ | exact ⟨hc0.1, by omega⟩
 refine WC.skip (hK10 _ _ (WC.seq (fun K13 hK13 => WC.r1 hs7 [] rfl (WC.block ?_))))
 have hM14 := (St.grp0 [_] (hs7.fb b2))
 refine WC.lV [2, 4, 9, 13, 15, 16] rfl hM14 (fun k_ (a_ : Hp) f => ∃ (i : Nat) (q : AttrD), k_ = n_l - i ∧ a_ = [(b2, .cells (List.toArray [i64 q.Fg, i64 q.Bg, .bool q.Bold, .bool q.Under, .bool q.Turn]) 30 (0, 0))] ∧ (i ≤ n_l) ∧ (q = sgrAll (⟨a_Fg, a_Bg, a_Bold, a_Under, a_Turn⟩ : AttrD) (l.take i)) ∧ Sub [(17, .int .i64 i)] f) (((fun (i : Nat) (q : AttrD) => n_l - i) (0) ((⟨a_Fg, a_Bg, a_Bold, a_Under, a_Turn⟩ : AttrD)))) ?_ ?_
 ·refine ⟨0, (⟨a_Fg, a_Bg, a_Bold, a_Under, a_Turn⟩ : AttrD), rfl, rfl, ?_, ?_, ⟨rfl, trivial⟩⟩
  · exact Nat.zero_le _
  · rfl
 rintro _ _ f w ⟨i, q, rfl, rfl, p0, p1, hG⟩ hF hs15
 refine WC.sub _ (hG.app hF) ?_
 clear hG hF
 replace hs15 := St.ungrp0 [_] hs15
 have hs16 := ((hs15.fb b4).fb b2)
 refine WC.r1 hs16 [] rfl (WC.seq (fun K17 hK17 => ?_))
 refine WC.cq rfl (fun h18 qh18 => ?_) (fun h18 qh18 => ?_)
 ·have hnn := (areArgs_iff.1 hl).2 _ (gat_mem (F := encI) (show i < l.length by omega))
  refine WC.skip (hK17 _ _ (WC.seq (fun K19 hK19 => WC.block (WC.sr ?_))))
  refine WL.val rfl rfl rfl (Run.idxN Tryz.runUnderlying23 Tryz.sizeOf3 rfl rfl rfl ?_ ?_ ?_) ?_
  · exact SlF.some_ (SlF.st0 f_l hs16)
  · omega
  · omega
  refine WL.val rfl rfl rfl (Run.load Tryz.isAgg3 rfl rfl (SlF.one1 (SlF.st0 f_l hs16) ?_ rfl)) ?_
  · omega
  refine WL.r 1 hs16 [] rfl (WL.nil (WC.region (WL.r 1 hs16 [] rfl ?_)))
  have hF20 : St _ _ ([(b2, _)] ++ _) _ := hs16
  refine WL.call rfl rfl rfl (Run.call Tryz.call255 rfl rfl rfl) (k73_ _ q _ _ (hF20.own _ List.mem_cons_self).1 ?_) ?_
  · omega
  rintro _ whs21 ⟨rfl, hs21⟩
  replace hs21 := St.lend hF20 hs21
  refine ⟨_, rfl, WL.nil (hK19 _ _ (WC.region (WL.r 2 hs21 [] rfl (WL.nil (tkN ?_)))))⟩
  have hF22 := (St.grp0 [_] ((hs21.fb b4).fb b2))
  refine ⟨sbF rfl, _, hF22, _, ?_, i + 1, (sgrOne q (gat encI l i)), rfl, rfl, ?_, ?_, ⟨rfl, trivial⟩⟩
  · omega
  · omega
  · rw [sgrAll_take (by omega), ← p1]
 refine WC.exit (hK13 _ _ (WC.sr (WL.r 1 hs16 [0] rfl (WL.st tbk hs16 1 rfl rfl (fun _ hs23 => WL.nil (WC.ret (retV1 rfl (resV.cellA tbk hs23 1 rfl rfl rfl rfl) ?_)))))))
 exact ⟨q, rfl, hs23.nil, by unfold sgrRes; rw [if_pos hk2, p1, List.take_of_length_le (by omega)]⟩
theorem k75_ (a_Fg : Int) (a_Bg : Int) (a_Bold : Bool) (a_Under : Bool) (a_Turn : Bool) (n : Int) (w : World) (hn : 0 ≤ n ∧ n ≤ 9999) :
    Calls Tryz.prog 232 #[.agg #[i64 a_Fg, i64 a_Bg, .bool a_Bold, .bool a_Under, .bool a_Turn], i64 n] w fun e w' => ∃ r : AttrD, e = .returned (.agg #[i64 r.Fg, i64 r.Bg, .bool r.Bold, .bool r.Under, .bool r.Turn]) ∧ St w [] [] w' ∧ r = sgrOne (⟨a_Fg, a_Bg, a_Bold, a_Under, a_Turn⟩ : AttrD) n := by
 refine enter 68 Tryz.func232 rfl Tryz.ntmps232 rfl rfl ?_
 have hs1 := St.init w
 refine WC.sr (WL.bx hs1 rfl (fun b2 _ hs3 => WL.al hs3 Tryz.zeroValue30 rfl rfl (fun b4 _ hs5 => WL.nil (WC.seq (fun K6 hK6 => WC.block (WC.r1 hs5 [] rfl ?_))))))
 refine WC.cq rfl (fun h7 qh7 => ?_) (fun h7 qh7 => ?_)
 ·have e0 : n = 0 := by have h9 := h7; simp at h9; first | exact h9 | omega
  refine WC.sr ?_
  refine WL.val rfl rfl rfl (Run.build rfl rfl rfl rfl (built_30)) (WL.st tbk hs5 0 rfl rfl (fun _ hs8 => WL.nil (WC.ret (ibR (tkR ?_)))))
  clear hK6
  refine retV1 rfl (resV.cellA tbk hs8 0 rfl rfl rfl rfl) (⟨sgrOne (⟨a_Fg, a_Bg, a_Bold, a_Under, a_Turn⟩ : AttrD) n, congrArg Ending.returned ?_, hs8.nil, rfl⟩)
  unfold sgrOne
  rw [if_pos e0]
  try rfl
 have e0 : ¬ (n = 0) := by intro h8; have h9 := h7; simp at h9; omega
 refine WC.sr (WL.r 3 hs5 [] rfl (WL.pO tbk 2 Acts.nil hs5 [] rfl rfl rfl rfl (fun g_ => trivial) (WL.r 1 hs5 [] rfl (WL.nil (WC.cq rfl (fun h9 qh9 => ?_) (fun h9 qh9 => ?_))))))
 ·have e1 : n = 1 ∨ n = 22 := by have h9 := h9; simp at h9; first | exact h9 | omega
  refine WC.region (WL.r 3 hs5 [] rfl (WL.st tbk hs5 1 rfl rfl (fun _ hs10 => WL.nil (hK6 _ _ (WC.sr (WL.r 1 hs10 [1] rfl (WL.st tbk hs10 0 rfl rfl (fun _ hs11 => ?_))))))))
  refine WL.nil (WC.ret (retV1 rfl (resV.cellA tbk hs11 0 rfl rfl rfl rfl) (⟨sgrOne (⟨a_Fg, a_Bg, a_Bold, a_Under, a_Turn⟩ : AttrD) n, congrArg Ending.returned ?_, hs11.nil, rfl⟩)))
  unfold sgrOne
  rw [if_neg e0, if_pos e1]
  try rfl
 have e1 : ¬ (n = 1 ∨ n = 22) := by intro h8; have h9 := h9; simp at h9; omega
 refine WC.sr (WL.r 3 hs5 [] rfl (WL.pO tbk 2 Acts.nil hs5 [] rfl rfl rfl rfl (fun g_ => trivial) (WL.r 1 hs5 [] rfl (WL.nil (WC.cq rfl (fun h12 qh12 => ?_) (fun h12 qh12 => ?_))))))
 ·have e4 : n = 4 ∨ n = 24 := by have h9 := h12; simp at h9; first | exact h9 | omega
  refine WC.region (WL.r 3 hs5 [] rfl (WL.st tbk hs5 1 rfl rfl (fun _ hs13 => WL.nil (hK6 _ _ (WC.sr (WL.r 1 hs13 [1] rfl (WL.st tbk hs13 0 rfl rfl (fun _ hs14 => ?_))))))))
  refine WL.nil (WC.ret (retV1 rfl (resV.cellA tbk hs14 0 rfl rfl rfl rfl) (⟨sgrOne (⟨a_Fg, a_Bg, a_Bold, a_Under, a_Turn⟩ : AttrD) n, congrArg Ending.returned ?_, hs14.nil, rfl⟩)))
  unfold sgrOne
  rw [if_neg e0, if_neg e1, if_pos e4]
  try rfl
 have e4 : ¬ (n = 4 ∨ n = 24) := by intro h8; have h9 := h12; simp at h9; omega
 refine WC.sr (WL.r 3 hs5 [] rfl (WL.pO tbk 2 Acts.nil hs5 [] rfl rfl rfl rfl (fun g_ => trivial) (WL.r 1 hs5 [] rfl (WL.nil (WC.cq rfl (fun h15 qh15 => ?_) (fun h15 qh15 => ?_))))))
 ·have e7 : n = 7 ∨ n = 27 := by have h9 := h15; simp at h9; first | exact h9 | omega
  refine WC.region (WL.r 3 hs5 [] rfl (WL.st tbk hs5 1 rfl rfl (fun _ hs16 => WL.nil (hK6 _ _ (WC.sr (WL.r 1 hs16 [1] rfl (WL.st tbk hs16 0 rfl rfl (fun _ hs17 => ?_))))))))
  refine WL.nil (WC.ret (retV1 rfl (resV.cellA tbk hs17 0 rfl rfl rfl rfl) (⟨sgrOne (⟨a_Fg, a_Bg, a_Bold, a_Under, a_Turn⟩ : AttrD) n, congrArg Ending.returned ?_, hs17.nil, rfl⟩)))
  unfold sgrOne
  rw [if_neg e0, if_neg e1, if_neg e4, if_pos e7]
  try rfl
 have e7 : ¬ (n = 7 ∨ n = 27) := by intro h8; have h9 := h15; simp at h9; omega
 refine WC.sr (WL.r 3 hs5 [] rfl (WL.pA tbk 2 Acts.nil hs5 [] rfl rfl rfl rfl (fun g_ => trivial) (WL.r 1 hs5 [] rfl (WL.nil (WC.cq rfl (fun h18 qh18 => ?_) (fun h18 qh18 => ?_))))))
 ·have e30 : 30 ≤ n ∧ n ≤ 37 := by have h9 := h18; simp at h9; first | exact h9 | omega
  refine WC.region (WL.r 3 hs5 [] rfl (WL.st tbk hs5 1 rfl rfl (fun _ hs19 => WL.nil (hK6 _ _ (WC.sr (WL.r 1 hs19 [1] rfl (WL.st tbk hs19 0 rfl rfl (fun _ hs20 => ?_))))))))
  refine WL.nil (WC.ret (retV1 rfl (resV.cellA tbk hs20 0 rfl rfl rfl rfl) (⟨sgrOne (⟨a_Fg, a_Bg, a_Bold, a_Under, a_Turn⟩ : AttrD) n, congrArg Ending.returned ?_, hs20.nil, rfl⟩)))
  unfold sgrOne
  rw [if_neg e0, if_neg e1, if_neg e4, if_neg e7, if_pos e30]
  try rfl
 have e30 : ¬ (30 ≤ n ∧ n ≤ 37) := by intro h8; have h9 := h18; simp at h9; omega
 refine WC.r1 hs5 [] rfl (WC.cq rfl (fun h21 qh21 => ?_) (fun h21 qh21 => ?_))
 ·have e39 : n = 39 := by have h9 := h21; simp at h9; first | exact h9 | omega
  refine WC.region (WL.r 1 hs5 [] rfl (WL.st tbk hs5 1 rfl rfl (fun _ hs22 => WL.nil (hK6 _ _ (WC.sr (WL.r 1 hs22 [1] rfl (WL.st tbk hs22 0 rfl rfl (fun _ hs23 => ?_))))))))
  refine WL.nil (WC.ret (retV1 rfl (resV.cellA tbk hs23 0 rfl rfl rfl rfl) (⟨sgrOne (⟨a_Fg, a_Bg, a_Bold, a_Under, a_Turn⟩ : AttrD) n, congrArg Ending.returned ?_, hs23.nil, rfl⟩)))
  unfold sgrOne
  rw [if_neg e0, if_neg e1, if_neg e4, if_neg e7, if_neg e30, if_pos e39]
  try rfl
 have e39 : ¬ (n = 39) := by intro h8; have h9 := h21; simp at h9; omega
 refine WC.sr (WL.r 3 hs5 [] rfl (WL.pA tbk 2 Acts.nil hs5 [] rfl rfl rfl rfl (fun g_ => trivial) (WL.r 1 hs5 [] rfl (WL.nil (WC.cq rfl (fun h24 qh24 => ?_) (fun h24 qh24 => ?_))))))
 ·have e40 : 40 ≤ n ∧ n ≤ 47 := by have h9 := h24; simp at h9; first | exact h9 | omega
  refine WC.region (WL.r 3 hs5 [] rfl (WL.st tbk hs5 1 rfl rfl (fun _ hs25 => WL.nil (hK6 _ _ (WC.sr (WL.r 1 hs25 [1] rfl (WL.st tbk hs25 0 rfl rfl (fun _ hs26 => ?_))))))))
  refine WL.nil (WC.ret (retV1 rfl (resV.cellA tbk hs26 0 rfl rfl rfl rfl) (⟨sgrOne (⟨a_Fg, a_Bg, a_Bold, a_Under, a_Turn⟩ : AttrD) n, congrArg Ending.returned ?_, hs26.nil, rfl⟩)))
  unfold sgrOne
  rw [if_neg e0, if_neg e1, if_neg e4, if_neg e7, if_neg e30, if_neg e39, if_pos e40]
  try rfl
 have e40 : ¬ (40 ≤ n ∧ n ≤ 47) := by intro h8; have h9 := h24; simp at h9; omega
 refine WC.r1 hs5 [] rfl (WC.cq rfl (fun h27 qh27 => ?_) (fun h27 qh27 => ?_))
 ·have e49 : n = 49 := by have h9 := h27; simp at h9; first | exact h9 | omega
  refine WC.region (WL.r 1 hs5 [] rfl (WL.st tbk hs5 1 rfl rfl (fun _ hs28 => WL.nil (hK6 _ _ (WC.sr (WL.r 1 hs28 [1] rfl (WL.st tbk hs28 0 rfl rfl (fun _ hs29 => ?_))))))))
  refine WL.nil (WC.ret (retV1 rfl (resV.cellA tbk hs29 0 rfl rfl rfl rfl) (⟨sgrOne (⟨a_Fg, a_Bg, a_Bold, a_Under, a_Turn⟩ : AttrD) n, congrArg Ending.returned ?_, hs29.nil, rfl⟩)))
  unfold sgrOne
  rw [if_neg e0, if_neg e1, if_neg e4, if_neg e7, if_neg e30, if_neg e39, if_neg e40, if_pos e49]
  try rfl
 have e49 : ¬ (n = 49) := by intro h8; have h9 := h27; simp at h9; omega
 refine WC.skip (hK6 _ _ (WC.sr (WL.r 1 hs5 [1] rfl (WL.st tbk hs5 0 rfl rfl (fun _ hs30 => WL.nil (WC.ret (retV1 rfl (resV.cellA tbk hs30 0 rfl rfl rfl rfl) ?_)))))))
 refine ⟨sgrOne (⟨a_Fg, a_Bg, a_Bold, a_Under, a_Turn⟩ : AttrD) n, congrArg Ending.returned ?_, hs30.nil, rfl⟩
 unfold sgrOne
 rw [if_neg e0, if_neg e1, if_neg e4, if_neg e7, if_neg e30, if_neg e39, if_neg e40, if_neg e49]
 try rfl
theorem k76_ (a_Fg : Int) (a_Bg : Int) (a_Bold : Bool) (a_Under : Bool) (a_Turn : Bool) (A_l : Option Addr) (n_l c_l : Nat) (l : List Int) (w : World) (f_l : SlF encI w A_l n_l l) (hl : areArgs l = true) (hn : n_l ≤ 549755813888) :
    Calls Tryz.prog 184 #[.agg #[i64 a_Fg, i64 a_Bg, .bool a_Bold, .bool a_Under, .bool a_Turn], .slice A_l n_l c_l] w fun e w' => ∃ r : AttrD, e = .returned (.agg #[i64 r.Fg, i64 r.Bg, .bool r.Bold, .bool r.Under, .bool r.Turn]) ∧ St w [] [] w' ∧ r = sgrRes (⟨a_Fg, a_Bg, a_Bold, a_Under, a_Turn⟩ : AttrD) l := by
 have hll := f_l.len
 refine enter 27 Tryz.func184 rfl Tryz.ntmps184 rfl rfl ?_
 have hs1 := St.init w
 refine WC.sr (WL.bx hs1 rfl (fun b2 _ hs3 => WL.al hs3 Tryz.zeroValue30 rfl rfl (fun b4 _ hs5 => WL.nil (WC.seq (fun K6 hK6 => WC.sr (WL.r 1 hs5 [1] rfl (WL.cl Tryz.call139 rfl (k4_ _ _ _ _ _ _) ?_)))))))
 rintro _ whs7 ⟨rfl, hs7⟩
 replace hs7 := hs5.call0 hs7
 refine ⟨_, rfl, WL.r 2 hs7 [] rfl (WL.pO tbk 3 Acts.nil hs7 [] rfl rfl rfl rfl (fun g_ => trivial) (WL.nil (WC.cq rfl (fun h8 qh8 => ?_) (fun h8 qh8 => ?_))))⟩
 ·have hk : ¬ (attrOk a_Fg a_Bg = true ∧ 0 < l.length) := by rintro ⟨z7, z8⟩; have h9 := h8; first | (simp [z7] at h9; omega) | (simp [z7] at h9)
  refine WC.sr ?_
  refine WL.val rfl rfl rfl (Run.build rfl rfl rfl rfl (built_30)) (WL.st tbk hs7 0 rfl rfl (fun _ hs9 => WL.nil (WC.ret (tkR ?_))))
  clear hK6
  refine retV1 rfl (resV.cellA tbk hs9 0 rfl rfl rfl rfl) ?_
  exact ⟨⟨0, 0, false, false, false⟩, rfl, hs9.nil, by unfold sgrRes; rw [if_neg hk]⟩
 have hc0 := h8
 have hk2 : attrOk a_Fg a_Bg = true ∧ 0 < l.length := by (try simp at hc0); (try simp at hc1); first | exact ⟨hc0, by omega⟩ | exact ⟨hc0.1, by omega⟩
 refine WC.skip (hK6 _ _ (WC.seq (fun K10 hK10 => WC.r1 hs7 [] rfl (WC.block ?_))))
 have hM11 := (St.grp0 [_] (hs7.fb b2))
 refine WC.lV [2, 4, 14, 16, 17] rfl hM11 (fun k_ (a_ : Hp) f => ∃ (i : Nat) (q : AttrD), k_ = n_l - i ∧ a_ = [(b2, .cells (List.toArray [i64 q.Fg, i64 q.Bg, .bool q.Bold, .bool q.Under, .bool q.Turn]) 30 (0, 0))] ∧ (i ≤ n_l) ∧ (q = sgrAll (⟨a_Fg, a_Bg, a_Bold, a_Under, a_Turn⟩ : AttrD) (l.take i)) ∧ Sub [(18, .int .i64 i)] f) (((fun (i : Nat) (q : AttrD) => n_l - i) (0) ((⟨a_Fg, a_Bg, a_Bold, a_Under, a_Turn⟩ : AttrD)))) ?_ ?_
 ·refine ⟨0, (⟨a_Fg, a_Bg, a_Bold, a_Under, a_Turn⟩ : AttrD), rfl, rfl, ?_, ?_, ⟨rfl, trivial⟩⟩
  · exact Nat.zero_le _
  · rfl
 rintro _ _ f w ⟨i, q, rfl, rfl, p0, p1, hG⟩ hF hs12
 refine WC.sub _ (hG.app hF) ?_
 clear hG hF
 replace hs12 := St.ungrp0 [_] hs12
 have hs13 := ((hs12.fb b4).fb b2)
 refine WC.r1 hs13 [] rfl (WC.seq (fun K14 hK14 => ?_))
 refine WC.cq rfl (fun h15 qh15 => ?_) (fun h15 qh15 => ?_)
 ·have hnn := (areArgs_iff.1 hl).2 _ (gat_mem (F := encI) (show i < l.length by omega))
  refine WC.skip (hK14 _ _ (WC.seq (fun K16 hK16 => WC.block (WC.sr ?_))))
  refine WL.val rfl rfl rfl (Run.idxN Tryz.runUnderlying23 Tryz.sizeOf3 rfl rfl rfl ?_ ?_ ?_) ?_
  · exact SlF.some_ (SlF.st0 f_l hs13)
  · omega
  · omega
  refine WL.val rfl rfl rfl (Run.load Tryz.isAgg3 rfl rfl (SlF.one1 (SlF.st0 f_l hs13) ?_ rfl)) ?_
  · omega
  refine WL.r 1 hs13 [] rfl (WL.nil (WC.region (WL.r 2 hs13 [0] rfl (WL.cl Tryz.call232 rfl (k75_ _ _ _ _ _ _ _ ?_) ?_))))
  · first | assumption | rfl | omega
  rintro _ whs17 ⟨r18, rfl, hs17, hr19⟩
  replace hs17 := hs13.callF hs17
  refine ⟨_, rfl, ?_⟩
  rw [List.nil_append] at hs17
  replace hs17 := St.perm hs17 (L' := [_, _] ++ _) pR
  refine WL.st tbk hs17 0 rfl rfl (fun _ hs20 => WL.nil (hK16 _ _ (WC.region (WL.r 2 hs20 [] rfl (WL.nil (tkN ?_))))))
  have hF21 := (St.grp0 [_] ((hs20.fb b4).fb b2))
  refine ⟨sbF rfl, _, hF21, _, ?_, i + 1, r18, rfl, rfl, ?_, ?_, ⟨rfl, trivial⟩⟩
  · omega
  · omega
  · rw [sgrAll_take (by omega), ← p1]; exact hr19
 refine WC.exit (hK10 _ _ (WC.sr (WL.r 1 hs13 [0] rfl (WL.st tbk hs13 1 rfl rfl (fun _ hs22 => WL.nil (WC.ret (retV1 rfl (resV.cellA tbk hs22 1 rfl rfl rfl rfl) ?_)))))))
 exact ⟨q, rfl, hs22.nil, by unfold sgrRes; rw [if_pos hk2, p1, List.take_of_length_le (by omega)]⟩
theorem k77_ (g : GridR) (x : Int) (y : Int) (n : Int) (w : World) (f_g : okGridR 549755813888 w g) (hg : gridOk g.dat = true) (hx : 0 ≤ x ∧ x < g.W) (hy : 0 ≤ y ∧ y < g.H) (hn : -100000 ≤ n ∧ n ≤ 100000) :
    Calls Tryz.prog 181 #[.agg #[i64 g.W, i64 g.H, .slice g.Cells.A g.Cells.n g.Cells.c], i64 x, i64 y, i64 n] w fun e w' => ∃ r L1, e = .returned (.agg #[i64 r.W, i64 r.H, .slice r.Cells.A r.Cells.n r.Cells.c]) ∧ St w [] L1 w' ∧ ownGridR r L1 ∧ r.dat = gShift g.dat x y n := by
 have nb_g_Cells := f_g.Cells_n
 have nl_g_Cells := f_g.Cells.len
 have hgb : (1 ≤ g.W ∧ g.W ≤ 120) ∧ (1 ≤ g.H ∧ g.H ≤ 120) ∧ 1 ≤ g.W * g.H ∧ g.W * g.H ≤ 4000 := gridOk_bnd hg
 have hgl : (g.Cells.xs.length : Int) = g.W * g.H := grid_len hg
 have hsmg : smGrid 1048576 g.dat := by show g.Cells.xs.length ≤ 1048576; omega
 have hsmgB : smGrid 549755813888 g.dat := Nat.le_trans hsmg (by decide)
 have hv0 : 0 ≤ y * g.W := Int.mul_nonneg (by omega) (by omega)
 have hv1 : (y + 1) * g.W = y * g.W + g.W := by rw [Int.add_mul, Int.one_mul]
 have hv2 : (y + 1) * g.W ≤ g.H * g.W := Int.mul_le_mul_of_nonneg_right (by omega) (by omega)
 rw [Int.mul_comm g.H g.W] at hv2
 have hlo2 : (y * g.W).toNat = y.toNat * g.W.toNat := Int.toNat_mul (by omega) (by omega)
 have hnz : ((y.toNat * g.W.toNat : Nat) : Int) = y * g.W := by rw [← hlo2]; omega
 refine enter 103 Tryz.func181 rfl Tryz.ntmps181 rfl rfl ?_
 have hs1 := St.init w
 refine WC.sr (WL.bx hs1 rfl (fun b2 _ hs3 => WL.al hs3 Tryz.zeroValue28 rfl rfl (fun b4 _ hs5 => WL.nil (WC.seq (fun K6 hK6 => WC.sr (WL.r 1 hs5 [1] rfl (WL.cl Tryz.call138 rfl (k39_ g _ (okGridR.st0 f_g hs5)) ?_)))))))
 rintro _ whs7 ⟨rfl, hs7⟩
 replace hs7 := hs5.call0 hs7
 refine ⟨_, rfl, WL.r 2 hs7 [] rfl (WL.pO tbk 2 Acts.nil hs7 [] rfl rfl rfl rfl (fun g_ => trivial) (WL.r 1 hs7 [] rfl (WL.pO tbk 4 Acts.nil hs7 [1] rfl rfl rfl rfl (fun g_ => ⟨rfl, trivial⟩) (WL.r 1 hs7 [] rfl (WL.pO tbk 2 Acts.nil hs7 [] rfl rfl rfl rfl (fun g_ => trivial) (WL.r 1 hs7 [] rfl ?_))))))⟩
 refine WL.pO tbk 4 Acts.nil hs7 [1] rfl rfl rfl rfl (fun g_ => ⟨rfl, trivial⟩) (WL.nil (WC.cq rfl (fun h8 qh8 => ?_) (fun h8 qh8 => ?_)))
 ·exfalso; have h9 := h8; simp [hg] at h9; omega
 refine WC.skip (hK6 _ _ (WC.seq (fun K9 hK9 => WC.r1 hs7 [1] rfl ?_)))
 refine WC.mergeK [(1, _), (2, _), (4, _), (8, _), (33, _), (38, _)] 3 (i64 (min n g.W)) hs7 ⟨rfl, rfl, rfl, rfl, rfl, rfl, trivial⟩ (fun f whs11 hF12 hs11 => ?_) (fun hJ10 => ?_)
 ·refine hK9 _ _ (WC.sub _ hF12 ?_)
  clear hF12
  refine WC.seq (fun K13 hK13 => WC.r1 hs11 [1] rfl ?_)
  refine WC.mergeK [(1, _), (2, _), (4, _), (8, _), (33, _), (38, _), (45, _)] 3 (i64 (max (min n g.W) (-g.W))) hs11 ⟨rfl, rfl, rfl, rfl, rfl, rfl, rfl, trivial⟩ (fun f whs15 hF16 hs15 => ?_) (fun hJ14 => ?_)
  ·refine hK13 _ _ (WC.sub _ hF16 ?_)
   clear hF16
   refine WC.sr (WL.r 1 hs15 [1] rfl (WL.cl Tryz.call141 rfl (k27_ g _ (okGridR.st0 f_g hs15) ?_) ?_))
   · first | assumption | rfl | omega | (exact Nat.le_trans hsmg (by decide))
   rintro _ whs17 ⟨r18, L1_19, rfl, hs17, ho20, hd21⟩
   replace hs17 := hs15.callF hs17
   refine ⟨_, rfl, ?_⟩
   replace hs17 := St.back [_, _] hs17
   have hd0 := hd21
   refine WL.al hs17 Tryz.zeroValue28 rfl rfl (fun b22 _ hs23 => WL.st tbk hs23 0 rfl rfl (fun _ hs24 => WL.nil (WC.seq (fun K25 hK25 => WC.r1 hs24 [] rfl (WC.block ?_)))))
   have hM30 := (St.grp1 (L1 := L1_19) [_] ((((hs24.fb b2).fb b4).fr L1_19).fb b22))
   refine WC.lV [1, 2, 3, 4, 8, 9, 33, 38, 45] rfl hM30 (fun k_ (a_ : Hp) f => ∃ (a : Nat) (r : GridR) (L28 : Hp), k_ = (g.W - x).toNat - a ∧ a_ = [(b22, .cells (List.toArray [i64 r.W, i64 r.H, .slice r.Cells.A r.Cells.n r.Cells.c]) 28 (0, 0))] ++ L28 ∧ ((a : Int) ≤ g.W - x) ∧ (r.W = g.W ∧ r.H = g.H ∧ r.Cells.xs.length = g.Cells.xs.length) ∧ (∀ k, k < g.Cells.xs.length → cat r.Cells.xs k = partF g.dat (shiftF g.dat x y ((max (min n g.W) (-g.W)))) (y.toNat * g.dat.W.toNat + x.toNat) a k) ∧ ownGridR r L28 ∧ Sub [(10, .int .i64 (x + a))] f) (((fun (a : Nat) => (g.W - x).toNat - a) (0))) ?_ ?_
   ·refine ⟨0, r18, L1_19, rfl, rfl, ?_, ?_, ?_, ho20, ⟨?_, trivial⟩⟩
    · omega
    · exact ⟨congrArg GridD.W hd0, congrArg GridD.H hd0, congrArg (fun d : GridD => d.Cells.length) hd0⟩
    · intro k hk; rw [partF_zero]; exact congrArg (fun d : GridD => cat d.Cells k) hd0
    · (refine congrArg some (congrArg (Value.int _) ?_); omega)
   rintro _ _ f w ⟨a, r, L28, rfl, rfl, p0, p1, p2, ho29, hG⟩ hF hs31
   refine WC.sub _ (hG.app hF) ?_
   clear hG hF
   replace hs31 := St.ungrp1 [_] hs31
   have hs32 := (((hs31.fb b2).fb b4).fb b22)
   have hsmr : smGrid 549755813888 r.dat := by show r.Cells.xs.length ≤ 549755813888; omega
   have hnr := ownGridR.len ‹ownGridR r _›
   refine WC.seq (fun K33 hK33 => WC.r1 hs32 [2] rfl ?_)
   refine WC.cq rfl (fun h34 qh34 => ?_) (fun h34 qh34 => ?_)
   ·refine WC.skip (hK33 _ _ (WC.seq (fun K35 hK35 => WC.block (WC.seq (fun K36 hK36 => WC.rG 10 (hs32.rm L28) hs32 hs32 (fun _ hs37 => ?_))))))
    refine WG.rn [0, 1, 2, 3, 4, 5, 6, 7] hs37 [0, 2] rfl rfl (WG.o1 8 rfl rfl (WL.cl Tryz.call180 rfl (k20_ _) ?_))
    rintro _ whs38 ⟨rfl, hs38⟩
    replace hs38 := hs37.call0 hs38
    refine ⟨_, rfl, WL.nil ⟨hs38, ?_⟩⟩
    refine WG.tk 9 rfl (by kernel_rfl) rfl rfl rfl hs38 (fun w_ hs_ => (Run.idx Tryz.runUnderlying26 Tryz.sizeOf75 rfl rfl rfl ?_ ?_ ?_)) ?_
    · exact SlF.some_ (ownGridR.ok (B := 549755813888) ho29 ((hs_ : St _ _ _ _).ow L28) hsmr).Cells
    · first | omega | (simp only [List.length_set]; omega)
    · first | omega | (simp only [List.length_set]; omega)
    refine WG.oK rfl (WL.storeF1 (x' := blankC) (hs38.fr L28) ho29 Tryz.sizeOf75 rfl rfl rfl rfl rfl rfl rfl rfl rfl ?_ rfl (fun L39 whs40 hs40 ho41 _ => ?_))
    · first | omega | (simp only [List.length_set]; omega)
    replace hs40 := St.back [_, _, _] hs40
    refine WL.nil ⟨(hs40.rm L39), WH.dn (hK36 _ _ (WC.sr (WL.r 6 hs40 [] rfl ?_)))⟩
    refine WL.pA tbk 6 Acts.nil hs40 [2] rfl rfl rfl rfl (fun g_ => by (try simp only [bf, within_iff, within_not] at g_); exact ⟨rfl, by omega, trivial⟩) (WL.nil (WC.cq rfl (fun h42 qh42 => ?_) (fun h42 qh42 => ?_)))
    ·refine WC.rG 21 (hs40.rm L39) hs40 hs40 (fun _ hs43 => ?_)
     refine WG.rn [0, 1, 2, 3, 4, 5, 6, 7, 8, 9, 10, 11, 12, 13, 14, 15, 16, 17] hs43 [0, 2, 2, 2] rfl rfl ?_
     refine WG.tk 18 rfl (by kernel_rfl) rfl rfl rfl hs43 (fun w_ hs_ => (Run.idx Tryz.runUnderlying26 Tryz.sizeOf75 rfl rfl rfl ?_ ?_ ?_)) ?_
     · exact SlF.some_ (SlF.st0 f_g.Cells (hs_ : St _ _ _ _))
     · first | omega | (simp only [List.length_set]; omega)
     · first | omega | (simp only [List.length_set]; omega)
     refine WG.tk 19 rfl (by kernel_rfl) rfl rfl rfl hs43 (fun w_ hs_ => (Run.loadA Tryz.isAgg75 Tryz.sizeOf75 rfl rfl (SlF.whole (SlF.st0 f_g.Cells (hs_ : St _ _ _ _)) ?_))) ?_
     · first | omega | (simp only [List.length_set]; omega)
     refine WG.tk 20 rfl (by kernel_rfl) rfl rfl rfl hs43 (fun w_ hs_ => (Run.idx Tryz.runUnderlying26 Tryz.sizeOf75 rfl rfl rfl ?_ ?_ ?_)) ?_
     · exact SlF.some_ (SlF.ofOwn ho41 ((hs_ : St _ _ _ _).ow L39))
     · first | omega | (simp only [List.length_set]; omega)
     · first | omega | (simp only [List.length_set]; omega)
     refine WG.oK rfl (WL.storeF1 (x' := _) (hs43.fr L39) ho41 Tryz.sizeOf75 rfl rfl rfl rfl rfl rfl rfl rfl rfl ?_ rfl (fun L44 whs45 hs45 ho46 _ => ?_))
     · first | omega | (simp only [List.length_set]; omega)
     replace hs45 := St.back [_, _, _] hs45
     refine WL.nil ⟨(hs45.rm L44), WH.dn (hK35 _ _ (WC.region (WL.r 3 hs45 [] rfl (WL.nil (tkN ?_)))))⟩
     have hF47 := (St.grp1 (L1 := L44) [_] ((((hs45.fb b2).fb b4).fr L44).fb b22))
     refine ⟨sbF rfl, _, hF47, _, ?_, a + 1, ⟨r.W, r.H, SlD.of ho46⟩, L44, rfl, rfl, ?_, ?_, ?_, ho46, ⟨?_, trivial⟩⟩
     · omega
     · omega
     · exact ⟨p1.1, p1.2.1, by simp only [List.length_set]; exact p1.2.2⟩
     · intro k hk; first | (show gat encCell ((r.Cells.xs.set _ _).set _ _) k = _; rw [List.set_set]; exact part_next (g := g.dat) (by rw [Int.toNat_add (by omega) (by omega), hlo2]; show _ = y.toNat * g.W.toNat + x.toNat + a; omega) (by rw [p1.2.2]; omega) (by rw [shiftF_at (g := g.dat) hx.1 hy.1 (by show x + (a : Int) < g.W; omega), if_pos (by have h9 := h42; simp at h9; show x ≤ x + (a : Int) - (max (min n g.W) (-g.W)) ∧ x + (a : Int) - (max (min n g.W) (-g.W)) < g.W; omega)]; show cat _ _ = cat _ _; congr 1; show _ = y.toNat * g.W.toNat + _; rw [← hlo2]; omega) (p2 k hk)) | (show gat encCell (r.Cells.xs.set _ _) k = _; exact part_next (g := g.dat) (by rw [Int.toNat_add (by omega) (by omega), hlo2]; show _ = y.toNat * g.W.toNat + x.toNat + a; omega) (by rw [p1.2.2]; omega) (by rw [shiftF_at (g := g.dat) hx.1 hy.1 (by show x + (a : Int) < g.W; omega), if_neg (by have h9 := h42; simp at h9; show ¬ (x ≤ x + (a : Int) - (max (min n g.W) (-g.W)) ∧ x + (a : Int) - (max (min n g.W) (-g.W)) < g.W); omega)]) (p2 k hk))
     · (refine congrArg some (congrArg (Value.int _) ?_); omega)
    refine WC.skip (hK35 _ _ (WC.region (WL.r 3 hs40 [] rfl (WL.nil (tkN ?_)))))
    have hF48 := (St.grp1 (L1 := L39) [_] ((((hs40.fb b2).fb b4).fr L39).fb b22))
    refine ⟨sbF rfl, _, hF48, _, ?_, a + 1, ⟨r.W, r.H, SlD.of ho41⟩, L39, rfl, rfl, ?_, ?_, ?_, ho41, ⟨?_, trivial⟩⟩
    · omega
    · omega
    · exact ⟨p1.1, p1.2.1, by simp only [List.length_set]; exact p1.2.2⟩
    · intro k hk; first | (show gat encCell ((r.Cells.xs.set _ _).set _ _) k = _; rw [List.set_set]; exact part_next (g := g.dat) (by rw [Int.toNat_add (by omega) (by omega), hlo2]; show _ = y.toNat * g.W.toNat + x.toNat + a; omega) (by rw [p1.2.2]; omega) (by rw [shiftF_at (g := g.dat) hx.1 hy.1 (by show x + (a : Int) < g.W; omega), if_pos (by have h9 := h42; simp at h9; show x ≤ x + (a : Int) - (max (min n g.W) (-g.W)) ∧ x + (a : Int) - (max (min n g.W) (-g.W)) < g.W; omega)]; show cat _ _ = cat _ _; congr 1; show _ = y.toNat * g.W.toNat + _; rw [← hlo2]; omega) (p2 k hk)) | (show gat encCell (r.Cells.xs.set _ _) k = _; exact part_next (g := g.dat) (by rw [Int.toNat_add (by omega) (by omega), hlo2]; show _ = y.toNat * g.W.toNat + x.toNat + a; omega) (by rw [p1.2.2]; omega) (by rw [shiftF_at (g := g.dat) hx.1 hy.1 (by show x + (a : Int) < g.W; omega), if_neg (by have h9 := h42; simp at h9; show ¬ (x ≤ x + (a : Int) - (max (min n g.W) (-g.W)) ∧ x + (a : Int) - (max (min n g.W) (-g.W)) < g.W); omega)]) (p2 k hk))
    · (refine congrArg some (congrArg (Value.int _) ?_); omega)
   refine WC.exit (hK25 _ _ (WC.sr (WL.r 1 hs32 [0] rfl (WL.st tbk hs32 1 rfl rfl (fun _ hs49 => WL.nil (WC.ret (retV1 rfl (resV.cellA tbk hs49 1 rfl rfl rfl rfl) ?_)))))))
   refine ⟨r, _, rfl, (St.keep1 (hs49.fr L28)), ?_, ?_⟩
   · exact ho29
   · exact shift_done (g := g.dat) (m := (max (min n g.W) (-g.W))) hx hy.1 (by show (a : Int) = g.W - x; omega) p1.1 p1.2.1 p1.2.2 (by show n = _ ∨ (g.W ≤ n ∧ g.W ≤ _ ∨ n ≤ -g.W ∧ _ ≤ -g.W); omega) p2
  refine WC.cq rfl (fun h50 qh50 => ?_) (fun h50 qh50 => ?_)
  ·refine WC.region (WL.r 4 hs11 [1] rfl (WL.nil ?_))
   exact hJ14 _ _ ⟨(congrArg some (congrArg (Value.int .i64) (by omega))), rfl, rfl, rfl, rfl, rfl, rfl, rfl, trivial⟩ hs11
  refine WC.skip ?_
  exact hJ14 _ _ ⟨(congrArg some (congrArg (Value.int .i64) (by omega))), rfl, rfl, rfl, rfl, rfl, rfl, rfl, trivial⟩ hs11
 refine WC.cq rfl (fun h51 qh51 => ?_) (fun h51 qh51 => ?_)
 ·refine WC.region (WL.r 3 hs7 [1] rfl (WL.nil ?_))
  exact hJ10 _ _ ⟨(congrArg some (congrArg (Value.int .i64) (by omega))), rfl, rfl, rfl, rfl, rfl, rfl, trivial⟩ hs7
 refine WC.skip ?_
 exact hJ10 _ _ ⟨(congrArg some (congrArg (Value.int .i64) (by omega))), rfl, rfl, rfl, rfl, rfl, rfl, trivial⟩ hs7
theorem k78_ (g : GridR) (x : Int) (y : Int) (w_ : Int) (h_ : Int) (c_R : Int) (c_A_Fg : Int) (c_A_Bg : Int) (c_A_Bold : Bool) (c_A_Under : Bool) (c_A_Turn : Bool) (w : World) (f_g : okGridR 549755813888 w g) (hg : gridOk g.dat = true) (hc : cellOk (⟨c_R, ⟨c_A_Fg, c_A_Bg, c_A_Bold, c_A_Under, c_A_Turn⟩⟩ : CellD) = true) (hx : -100000 ≤ x ∧ x ≤ 100000) (hy : -100000 ≤ y ∧ y ≤ 100000) (hw : -100000 ≤ w_ ∧ w_ ≤ 100000) (hh : -100000 ≤ h_ ∧ h_ ≤ 100000) :
    Calls Tryz.prog 179 #[.agg #[i64 g.W, i64 g.H, .slice g.Cells.A g.Cells.n g.Cells.c], i64 x, i64 y, i64 w_, i64 h_, .agg #[i64 c_R, i64 c_A_Fg, i64 c_A_Bg, .bool c_A_Bold, .bool c_A_Under, .bool c_A_Turn]] w fun e w' => ∃ r L1, e = .returned (.agg #[i64 r.W, i64 r.H, .slice r.Cells.A r.Cells.n r.Cells.c]) ∧ St w [] L1 w' ∧ ownGridR r L1 ∧ r.dat = gFill g.dat x y w_ h_ (⟨c_R, ⟨c_A_Fg, c_A_Bg, c_A_Bold, c_A_Under, c_A_Turn⟩⟩ : CellD) := by
 have nb_g_Cells := f_g.Cells_n
 have nl_g_Cells := f_g.Cells.len
 have hgb : (1 ≤ g.W ∧ g.W ≤ 120) ∧ (1 ≤ g.H ∧ g.H ≤ 120) ∧ 1 ≤ g.W * g.H ∧ g.W * g.H ≤ 4000 := gridOk_bnd hg
 have hgl : (g.Cells.xs.length : Int) = g.W * g.H := grid_len hg
 have hsmg : smGrid 1048576 g.dat := by show g.Cells.xs.length ≤ 1048576; omega
 have hng := f_g.Cells.len
 refine enter 91 Tryz.func179 rfl Tryz.ntmps179 rfl rfl ?_
 have hs1 := St.init w
 refine WC.sr (WL.bx hs1 rfl (fun b2 _ hs3 => WL.bx hs3 rfl (fun b4 _ hs5 => WL.al hs5 Tryz.zeroValue28 rfl rfl (fun b6 _ hs7 => WL.nil (WC.seq (fun K8 hK8 => WC.sr (WL.r 1 hs7 [2] rfl ?_)))))))
 refine WL.cl Tryz.call138 rfl (k39_ g _ (okGridR.st0 f_g hs7)) ?_
 rintro _ whs9 ⟨rfl, hs9⟩
 replace hs9 := hs7.call0 hs9
 refine ⟨_, rfl, WL.r 2 hs9 [] rfl ?_⟩
 apply WL.gO 3 Acts.nil hs9 rfl
 ·intro g10 J11
  have qg10 := g10
  try simp only [bf, within_iff, within_not] at qg10
  refine WL.runA tbk 1 (Acts.nil.cons (j := 3) rfl g10) hs9 [1] rfl ⟨rfl, trivial⟩ (WL.call (wantF rfl g10) rfl rfl (Run.call Tryz.call203 rfl rfl rfl) (k6_ _ _ _ _ _ _ _) ?_)
  rintro _ whs12 ⟨rfl, hs12⟩
  replace hs12 := hs9.call0 hs12
  refine ⟨_, rfl, WL.runA tbk 1 (Acts.nil.cons (j := 3) rfl g10) hs12 [] rfl trivial (WL.eO 3 Acts.nil J11 hs12 g10 rfl rfl)⟩
 intro _ hs13
 refine WL.r 1 hs13 [] rfl ?_
 apply WL.gO 3 Acts.nil hs13 rfl
 ·intro g14 J15
  have qg14 := g14
  try simp only [bf, within_iff, within_not] at qg14
  refine WL.runA tbk 1 (Acts.nil.cons (j := 8) rfl g14) hs13 [] rfl trivial (WL.call (wantF rfl g14) rfl rfl (Run.call Tryz.call230 rfl rfl rfl) (k47_ _ _) ?_)
  rintro _ whs16 ⟨rfl, hs16⟩
  replace hs16 := hs13.call0 hs16
  refine ⟨_, rfl, WL.runA tbk 1 (Acts.nil.cons (j := 8) rfl g14) hs16 [] rfl trivial (WL.eO 3 Acts.nil J15 hs16 g14 rfl rfl)⟩
 intro _ hs17
 refine WL.r 1 hs17 [] rfl ?_
 apply WL.gO 3 Acts.nil hs17 rfl
 ·intro g18 J19
  have qg18 := g18
  try simp only [bf, within_iff, within_not] at qg18
  refine WL.runA tbk 1 (Acts.nil.cons (j := 13) rfl g18) hs17 [] rfl trivial (WL.call (wantF rfl g18) rfl rfl (Run.call Tryz.call230 rfl rfl rfl) (k47_ _ _) ?_)
  rintro _ whs20 ⟨rfl, hs20⟩
  replace hs20 := hs17.call0 hs20
  refine ⟨_, rfl, WL.runA tbk 1 (Acts.nil.cons (j := 13) rfl g18) hs20 [] rfl trivial (WL.eO 3 Acts.nil J19 hs20 g18 rfl rfl)⟩
 intro _ hs21
 refine WL.r 1 hs21 [] rfl ?_
 apply WL.gO 3 Acts.nil hs21 rfl
 ·intro g22 J23
  have qg22 := g22
  try simp only [bf, within_iff, within_not] at qg22
  refine WL.runA tbk 1 (Acts.nil.cons (j := 18) rfl g22) hs21 [] rfl trivial (WL.call (wantF rfl g22) rfl rfl (Run.call Tryz.call230 rfl rfl rfl) (k47_ _ _) ?_)
  rintro _ whs24 ⟨rfl, hs24⟩
  replace hs24 := hs21.call0 hs24
  refine ⟨_, rfl, WL.runA tbk 1 (Acts.nil.cons (j := 18) rfl g22) hs24 [] rfl trivial (WL.eO 3 Acts.nil J23 hs24 g22 rfl rfl)⟩
 intro _ hs25
 refine WL.r 1 hs25 [] rfl ?_
 apply WL.gO 3 Acts.nil hs25 rfl
 ·intro g26 J27
  have qg26 := g26
  try simp only [bf, within_iff, within_not] at qg26
  refine WL.runA tbk 1 (Acts.nil.cons (j := 23) rfl g26) hs25 [] rfl trivial (WL.call (wantF rfl g26) rfl rfl (Run.call Tryz.call230 rfl rfl rfl) (k47_ _ _) ?_)
  rintro _ whs28 ⟨rfl, hs28⟩
  replace hs28 := hs25.call0 hs28
  refine ⟨_, rfl, WL.runA tbk 1 (Acts.nil.cons (j := 23) rfl g26) hs28 [] rfl trivial (WL.eO 3 Acts.nil J27 hs28 g26 rfl rfl)⟩
 intro _ hs29
 refine WL.nil (WC.cq rfl (fun h30 qh30 => ?_) (fun h30 qh30 => ?_))
 ·exfalso; have h9 := h30; simp [hg, hc, within] at h9; omega
 refine WC.skip (hK8 _ _ (WC.sr (WL.r 1 hs29 [2] rfl ?_)))
 refine WL.cl Tryz.call141 rfl (k27_ g _ (okGridR.st0 f_g hs29) ?_) ?_
 · first | assumption | rfl | omega | (exact Nat.le_trans hsmg (by decide))
 rintro _ whs31 ⟨r32, L1_33, rfl, hs31, ho34, hd35⟩
 replace hs31 := hs29.callF hs31
 refine ⟨_, rfl, ?_⟩
 replace hs31 := St.back [_, _, _] hs31
 have hd0 := hd35
 have hn0 := ownGridR.len ‹ownGridR r32 _›
 have hl0 : r32.Cells.xs.length = g.Cells.xs.length := congrArg (fun d : GridD => d.Cells.length) hd0
 refine WL.al hs31 Tryz.zeroValue28 rfl rfl (fun b36 _ hs37 => WL.st tbk hs37 0 rfl rfl (fun _ hs38 => WL.nil (WC.seq (fun K39 hK39 => WC.r1 hs38 [0] rfl (WC.block ?_)))))
 have hM44 := (St.grp1 (L1 := L1_33) [_] (((((hs38.fb b2).fb b4).fb b6).fr L1_33).fb b36))
 refine WC.lV [1, 2, 3, 4, 6, 11, 12, 13, 44, 50] rfl hM44 (fun k_ (a_ : Hp) f => ∃ (i : Nat) (r : GridR) (L42 : Hp), k_ = g.Cells.n - i ∧ a_ = [(b36, .cells (List.toArray [i64 r.W, i64 r.H, .slice r.Cells.A r.Cells.n r.Cells.c]) 28 (0, 0))] ++ L42 ∧ (i ≤ g.Cells.n) ∧ (r.W = g.W ∧ r.H = g.H ∧ r.Cells.xs.length = g.Cells.xs.length) ∧ (∀ k, k < g.Cells.xs.length → cat r.Cells.xs k = partF g.dat (fillFn g.dat x y w_ h_ (⟨c_R, ⟨c_A_Fg, c_A_Bg, c_A_Bold, c_A_Under, c_A_Turn⟩⟩ : CellD)) 0 i k) ∧ ownGridR r L42 ∧ Sub [(51, .int .i64 i)] f) (((fun (i : Nat) => g.Cells.n - i) (0))) ?_ ?_
 ·refine ⟨0, r32, L1_33, rfl, rfl, ?_, ?_, ?_, ho34, ⟨rfl, trivial⟩⟩
  · omega
  · exact ⟨congrArg GridD.W hd0, congrArg GridD.H hd0, congrArg (fun d : GridD => d.Cells.length) hd0⟩
  · intro k hk; rw [partF_zero]; exact congrArg (fun d : GridD => cat d.Cells k) hd0
 rintro _ _ f w ⟨i, r, L42, rfl, rfl, p0, p1, p2, ho43, hG⟩ hF hs45
 refine WC.sub _ (hG.app hF) ?_
 clear hG hF
 replace hs45 := St.ungrp1 [_] hs45
 have hs46 := ((((hs45.fb b2).fb b4).fb b6).fb b36)
 have hsmr : smGrid 549755813888 r.dat := by show r.Cells.xs.length ≤ 549755813888; omega
 have hnr := ownGridR.len ‹ownGridR r _›
 refine WC.r1 hs46 [] rfl (WC.seq (fun K47 hK47 => ?_))
 refine WC.cq rfl (fun h48 qh48 => ?_) (fun h48 qh48 => ?_)
 ·obtain ⟨q, m, hkd, hkm, hiq, hmw, hqh⟩ := divmod_ex (i := i) (w := g.W) (h := g.H) (by omega) (by omega) (by omega)
  obtain ⟨hdq, hmq⟩ := at_div (w := g.W.toNat) (y := q) (x := m) (by omega)
  rw [← hiq] at hdq hmq
  refine WC.skip (hK47 _ _ (WC.seq (fun K49 hK49 => WC.block (WC.r1 hs46 [] rfl (WC.sr (WL.r 3 hs46 [3] rfl ?_))))))
  refine WL.val rfl rfl rfl (Run.rem rfl rfl rfl ?_ ?_) ?_
  · omega
  · omega
  refine WL.r 1 hs46 [] rfl (WL.nil (WC.sr (WL.r 3 hs46 [3] rfl (WL.val rfl rfl rfl (Run.quo rfl rfl rfl ?_ ?_ ?_) ?_))))
  · omega
  · omega
  · omega
  refine WL.r 1 hs46 [] rfl (WL.nil (WC.sr (WL.r 4 hs46 [] rfl ?_)))
  refine WL.pA tbk 5 Acts.nil hs46 [] rfl rfl rfl rfl (fun g_ => by (try simp only [bf, within_iff, within_not] at g_); exact ⟨by omega, trivial⟩) (WL.r 1 hs46 [] rfl (WL.pA tbk 3 Acts.nil hs46 [] rfl rfl rfl rfl (fun g_ => trivial) (WL.r 1 hs46 [] rfl ?_)))
  refine WL.pA tbk 5 Acts.nil hs46 [] rfl rfl rfl rfl (fun g_ => by (try simp only [bf, within_iff, within_not] at g_); exact ⟨by omega, trivial⟩) (WL.nil (WC.cq rfl (fun h50 qh50 => ?_) (fun h50 qh50 => ?_)))
  ·have hin : ((x ≤ (m : Int) ∧ (m : Int) < x + w_) ∧ y ≤ (q : Int) ∧ (q : Int) < y + h_) := by have h9 := h50; simp [hkm, hkd] at h9; omega
   refine WC.region (WL.r 4 hs46 [0, 2] rfl (WL.val rfl rfl rfl (Run.idxN Tryz.runUnderlying26 Tryz.sizeOf75 rfl rfl rfl ?_ ?_ ?_) ?_))
   · exact SlF.some_ (ownGridR.ok (B := 549755813888) ho43 (hs46.ow L42) hsmr).Cells
   · first | omega | (rw [hkd, hkm]; omega)
   · first | omega | (rw [hkd, hkm]; omega)
   refine WL.storeF1 (x' := (⟨c_R, ⟨c_A_Fg, c_A_Bg, c_A_Bold, c_A_Under, c_A_Turn⟩⟩ : CellD)) (hs46.fr L42) ho43 Tryz.sizeOf75 rfl rfl rfl rfl rfl rfl rfl rfl rfl ?_ rfl (fun L51 whs52 hs52 ho53 _ => ?_)
   · first | omega | (rw [hkd, hkm]; omega)
   replace hs52 := St.back [_, _, _, _] hs52
   refine WL.nil (hK49 _ _ (WC.region (WL.r 2 hs52 [] rfl (WL.nil (tkN ?_)))))
   have hF54 := (St.grp1 (L1 := L51) [_] (((((hs52.fb b2).fb b4).fb b6).fr L51).fb b36))
   refine ⟨sbF rfl, _, hF54, _, ?_, i + 1, ⟨r.W, r.H, SlD.of ho53⟩, L51, rfl, rfl, ?_, ?_, ?_, ho53, ⟨rfl, trivial⟩⟩
   · omega
   · omega
   · first | exact p1 | exact ⟨p1.1, p1.2.1, by simp only [List.length_set]; exact p1.2.2⟩
   · intro k hk; show cat _ k = _; first | exact part_next (g := g.dat) (by omega) (by rw [p1.2.2]; omega) (by rw [Nat.zero_add]; symm; unfold fillFn; rw [show i / g.dat.W.toNat = q from hdq, show i % g.dat.W.toNat = m from hmq,  if_pos hin]) (p2 k hk) | exact part_skip (g := g.dat) (by unfold fillFn; rw [show i / g.dat.W.toNat = q from hdq, show i % g.dat.W.toNat = m from hmq,  if_neg hout]) (p2 k hk)
  have hout : ¬ ((x ≤ (m : Int) ∧ (m : Int) < x + w_) ∧ y ≤ (q : Int) ∧ (q : Int) < y + h_) := by have h9 := h50; simp [hkm, hkd] at h9; omega
  refine WC.skip (hK49 _ _ (WC.region (WL.r 2 hs46 [] rfl (WL.nil (tkN ?_)))))
  have hF55 := (St.grp1 (L1 := L42) [_] (((((hs46.fb b2).fb b4).fb b6).fr L42).fb b36))
  refine ⟨sbF rfl, _, hF55, _, ?_, i + 1, r, L42, rfl, rfl, ?_, ?_, ?_, ho43, ⟨rfl, trivial⟩⟩
  · omega
  · omega
  · first | exact p1 | exact ⟨p1.1, p1.2.1, by simp only [List.length_set]; exact p1.2.2⟩
  · intro k hk; show cat _ k = _; first | exact part_next (g := g.dat) (by omega) (by rw [p1.2.2]; omega) (by rw [Nat.zero_add]; symm; unfold fillFn; rw [show i / g.dat.W.toNat = q from hdq, show i % g.dat.W.toNat = m from hmq,  if_pos hin]) (p2 k hk) | exact part_skip (g := g.dat) (by unfold fillFn; rw [show i / g.dat.W.toNat = q from hdq, show i % g.dat.W.toNat = m from hmq,  if_neg hout]) (p2 k hk)
 refine WC.exit (hK39 _ _ (WC.sr (WL.r 1 hs46 [0] rfl (WL.st tbk hs46 1 rfl rfl (fun _ hs56 => WL.nil (WC.ret (retV1 rfl (resV.cellA tbk hs56 1 rfl rfl rfl rfl) ?_)))))))
 refine ⟨r, _, rfl, (St.keep1 (hs56.fr L42)), ?_, ?_⟩
 · exact ho43
 · exact part_done (g := g.dat) (lo := 0) (a := i) p1.1 p1.2.1 p1.2.2 (fun k hk h9 => absurd (show 0 ≤ k ∧ k < 0 + i by have h7 : k < g.Cells.xs.length := hk; omega) h9) p2
theorem k79_ (s : ScrR) (L_s : Hp) (A_l : Option Addr) (n_l c_l : Nat) (l : List Int) (b : Int) (w : World) (o_s : ownScrR s L_s) (h_s : Hh w L_s) (f_l : SlF encI w A_l n_l l) (hd_ : ((L_s).map (·.1)).Nodup) (s_l : 0 < n_l → (adr A_l).block ∉ ((L_s).map (·.1))) (hf : ScrFine s.dat) (hsmB : smScr 549755813888 s.dat) (hl : areArgs l = true) (hll : n_l ≤ 549755813888) :
    Calls Tryz.prog 99 #[.agg (cScr s).toArray, .slice A_l n_l c_l, i64 b] w fun e w' => ∃ r L1, e = .returned (.agg (cScr r).toArray) ∧ St w ((L_s).map (·.1)) L1 w' ∧ ownScrR r L1 ∧ r.dat = csiD s.dat l b := by
 have hwh : (1 ≤ s.W ∧ s.W ≤ 120) ∧ 1 ≤ s.H ∧ s.H ≤ 120 := ⟨(isSize_bnd hf.size).1, (isSize_bnd hf.size).2.1⟩
 have hxy := hf.pos
 simp only [ScrR.dat, GridR.dat] at hxy
 have hz := isSize_bnd hf.size
 simp only [ScrR.dat] at hz
 have hv0 : 0 ≤ s.Y * s.W := Int.mul_nonneg (by omega) (by omega)
 have hv1 : (s.Y + 1) * s.W = s.Y * s.W + s.W := by rw [Int.add_mul, Int.one_mul]
 have hv2 : (s.Y + 1) * s.W ≤ s.H * s.W := Int.mul_le_mul_of_nonneg_right (by omega) (by omega)
 rw [Int.mul_comm s.H s.W] at hv2
 have hsm : smScr 1048576 s.dat := fine_smB hf (by decide)
 have ha0 := argI_pos (k := 0) (d := 1) hl (by omega)
 have ha1 := argI_bnd (k := 1) (d := 1) hl (by omega)
 have hk0 := argI_bnd (k := 0) (d := 0) hl (by omega)
 have hrg : (0 ≤ s.Top ∧ s.Top ≤ s.Bot) ∧ s.Bot < s.H := ⟨hf.reg.1, hf.reg.2.1⟩
 have hgs : gridOk (shownR s).dat = true := by rw [shownR_dat]; exact hf.shown.1
 have hHs : (shownR s).H = s.H := by have h9 : (shownR s).H = (shownD s.dat).H := congrArg GridD.H shownR_dat; rw [h9]; exact hf.shown.2.2
 have hWs : (shownR s).W = s.W := by have h9 : (shownR s).W = (shownD s.dat).W := congrArg GridD.W shownR_dat; rw [h9]; exact hf.shown.2.1
 have hfc := fill_clear (g := shownD s.dat) (x := s.X) (y := s.Y) (n := argI l 0 1) (by rw [hf.shown.2.1]; exact hf.pos.1) hf.pos.2.1
 rw [hf.shown.2.1] at hfc
 refine enter 193 Tryz.func99 rfl Tryz.ntmps99 rfl rfl ?_
 have hs1 := St.takes1 w L_s h_s hd_
 refine WC.sr (WL.bx hs1 rfl (fun b2 _ hs3 => WL.al hs3 Tryz.zeroValue33 rfl rfl (fun b4 _ hs5 => WL.nil (WC.sr (WL.r 1 hs5 [] rfl ?_)))))
 refine WL.cl Tryz.call177 rfl (k60_ _ _ _ _ _ _ (SlF.st f_l hs5 s_l) ?_) ?_
 · first | assumption | rfl | omega | exact blank_ok | (constructor <;> omega)
 rintro _ whs6 ⟨rfl, hs6⟩
 replace hs6 := hs5.call0 hs6
 refine ⟨_, rfl, WL.r 1 hs6 [] rfl (WL.nil (WC.sr (WL.r 1 hs6 [] rfl (WL.cl Tryz.call177 rfl (k60_ _ _ _ _ _ _ (SlF.st f_l hs6 s_l) ?_) ?_))))⟩
 · first | assumption | rfl | omega | exact blank_ok | (constructor <;> omega)
 rintro _ whs7 ⟨rfl, hs7⟩
 replace hs7 := hs6.call0 hs7
 refine ⟨_, rfl, WL.r 1 hs7 [] rfl (WL.nil (WC.seq (fun K8 hK8 => WC.r1 hs7 [] rfl (WC.block (WC.r1 hs7 [] rfl ?_)))))⟩
 refine WC.cq rfl (fun h9 qh9 => ?_) (fun h9 qh9 => ?_)
 ·have e65 : b = 65 := by have h9 := h9; simpa using h9
  refine WC.sr (WL.r 7 hs7 [1, 1, 1] rfl (WL.cl Tryz.call163 rfl (k62_ s _ _ _ (ownScrR.ok (B := 549755813888) o_s (hs7.ow L_s) (by assumption)) ?_) ?_))
  · first | assumption | rfl | omega | exact blank_ok | (constructor <;> omega)
  rintro _ whs10 ⟨r11, L1_12, rfl, hs10, ho13, hd14⟩
  replace hs10 := hs7.callF hs10
  refine ⟨_, rfl, ?_⟩
  replace hs10 := St.back [_, _] hs10
  refine WL.st tbk hs10 0 rfl rfl (fun _ hs15 => WL.nil (WC.ret (ibR (tkR ?_))))
  clear hK8
  refine retV1 rfl (resV.cellA tbk hs15 0 rfl rfl rfl rfl) (⟨r11, _, rfl, (St.keep1 (hs15.fr L1_12)), ?_, ?_⟩)
  · exact ho13
  · unfold csiD; rw [if_pos e65]; exact hd14.trans (scrGo_eq hf)
 have e65 : ¬ b = 65 := by have h9 := h9; simpa using h9
 refine WC.r1 hs7 [] rfl (WC.cq rfl (fun h16 qh16 => ?_) (fun h16 qh16 => ?_))
 ·have e66 : b = 66 := by have h9 := h16; simpa using h9
  refine WC.sr (WL.r 7 hs7 [1, 1, 1] rfl (WL.cl Tryz.call163 rfl (k62_ s _ _ _ (ownScrR.ok (B := 549755813888) o_s (hs7.ow L_s) (by assumption)) ?_) ?_))
  · first | assumption | rfl | omega | exact blank_ok | (constructor <;> omega)
  rintro _ whs17 ⟨r18, L1_19, rfl, hs17, ho20, hd21⟩
  replace hs17 := hs7.callF hs17
  refine ⟨_, rfl, ?_⟩
  replace hs17 := St.back [_, _] hs17
  refine WL.st tbk hs17 0 rfl rfl (fun _ hs22 => WL.nil (WC.ret (ibR (tkR ?_))))
  clear hK8
  refine retV1 rfl (resV.cellA tbk hs22 0 rfl rfl rfl rfl) (⟨r18, _, rfl, (St.keep1 (hs22.fr L1_19)), ?_, ?_⟩)
  · exact ho20
  · unfold csiD; rw [if_neg e65, if_pos e66]; exact hd21.trans (scrGo_eq hf)
 have e66 : ¬ b = 66 := by have h9 := h16; simpa using h9
 refine WC.r1 hs7 [] rfl (WC.cq rfl (fun h23 qh23 => ?_) (fun h23 qh23 => ?_))
 ·have e67 : b = 67 := by have h9 := h23; simpa using h9
  refine WC.sr (WL.r 7 hs7 [1, 1, 1] rfl (WL.cl Tryz.call163 rfl (k62_ s _ _ _ (ownScrR.ok (B := 549755813888) o_s (hs7.ow L_s) (by assumption)) ?_) ?_))
  · first | assumption | rfl | omega | exact blank_ok | (constructor <;> omega)
  rintro _ whs24 ⟨r25, L1_26, rfl, hs24, ho27, hd28⟩
  replace hs24 := hs7.callF hs24
  refine ⟨_, rfl, ?_⟩
  replace hs24 := St.back [_, _] hs24
  refine WL.st tbk hs24 0 rfl rfl (fun _ hs29 => WL.nil (WC.ret (ibR (tkR ?_))))
  clear hK8
  refine retV1 rfl (resV.cellA tbk hs29 0 rfl rfl rfl rfl) (⟨r25, _, rfl, (St.keep1 (hs29.fr L1_26)), ?_, ?_⟩)
  · exact ho27
  · unfold csiD; rw [if_neg e65, if_neg e66, if_pos e67]; exact hd28.trans (scrGo_eq hf)
 have e67 : ¬ b = 67 := by have h9 := h23; simpa using h9
 refine WC.r1 hs7 [] rfl (WC.cq rfl (fun h30 qh30 => ?_) (fun h30 qh30 => ?_))
 ·have e68 : b = 68 := by have h9 := h30; simpa using h9
  refine WC.sr (WL.r 7 hs7 [1, 1, 1] rfl (WL.cl Tryz.call163 rfl (k62_ s _ _ _ (ownScrR.ok (B := 549755813888) o_s (hs7.ow L_s) (by assumption)) ?_) ?_))
  · first | assumption | rfl | omega | exact blank_ok | (constructor <;> omega)
  rintro _ whs31 ⟨r32, L1_33, rfl, hs31, ho34, hd35⟩
  replace hs31 := hs7.callF hs31
  refine ⟨_, rfl, ?_⟩
  replace hs31 := St.back [_, _] hs31
  refine WL.st tbk hs31 0 rfl rfl (fun _ hs36 => WL.nil (WC.ret (ibR (tkR ?_))))
  clear hK8
  refine retV1 rfl (resV.cellA tbk hs36 0 rfl rfl rfl rfl) (⟨r32, _, rfl, (St.keep1 (hs36.fr L1_33)), ?_, ?_⟩)
  · exact ho34
  · unfold csiD; rw [if_neg e65, if_neg e66, if_neg e67, if_pos e68]; exact hd35.trans (scrGo_eq hf)
 have e68 : ¬ b = 68 := by have h9 := h30; simpa using h9
 refine WC.r1 hs7 [] rfl (WC.cq rfl (fun h37 qh37 => ?_) (fun h37 qh37 => ?_))
 ·have e71 : b = 71 := by have h9 := h37; simpa using h9
  refine WC.sr (WL.r 5 hs7 [1, 1] rfl (WL.cl Tryz.call163 rfl (k62_ s _ _ _ (ownScrR.ok (B := 549755813888) o_s (hs7.ow L_s) (by assumption)) ?_) ?_))
  · first | assumption | rfl | omega | exact blank_ok | (constructor <;> omega)
  rintro _ whs38 ⟨r39, L1_40, rfl, hs38, ho41, hd42⟩
  replace hs38 := hs7.callF hs38
  refine ⟨_, rfl, ?_⟩
  replace hs38 := St.back [_, _] hs38
  refine WL.st tbk hs38 0 rfl rfl (fun _ hs43 => WL.nil (WC.ret (ibR (tkR ?_))))
  clear hK8
  refine retV1 rfl (resV.cellA tbk hs43 0 rfl rfl rfl rfl) (⟨r39, _, rfl, (St.keep1 (hs43.fr L1_40)), ?_, ?_⟩)
  · exact ho41
  · unfold csiD; rw [if_neg e65, if_neg e66, if_neg e67, if_neg e68, if_pos e71]; exact hd42.trans (scrGo_eq hf)
 have e71 : ¬ b = 71 := by have h9 := h37; simpa using h9
 refine WC.r1 hs7 [] rfl (WC.cq rfl (fun h44 qh44 => ?_) (fun h44 qh44 => ?_))
 ·have e100 : b = 100 := by have h9 := h44; simpa using h9
  refine WC.sr (WL.r 5 hs7 [1, 1] rfl (WL.cl Tryz.call163 rfl (k62_ s _ _ _ (ownScrR.ok (B := 549755813888) o_s (hs7.ow L_s) (by assumption)) ?_) ?_))
  · first | assumption | rfl | omega | exact blank_ok | (constructor <;> omega)
  rintro _ whs45 ⟨r46, L1_47, rfl, hs45, ho48, hd49⟩
  replace hs45 := hs7.callF hs45
  refine ⟨_, rfl, ?_⟩
  replace hs45 := St.back [_, _] hs45
  refine WL.st tbk hs45 0 rfl rfl (fun _ hs50 => WL.nil (WC.ret (ibR (tkR ?_))))
  clear hK8
  refine retV1 rfl (resV.cellA tbk hs50 0 rfl rfl rfl rfl) (⟨r46, _, rfl, (St.keep1 (hs50.fr L1_47)), ?_, ?_⟩)
  · exact ho48
  · unfold csiD; rw [if_neg e65, if_neg e66, if_neg e67, if_neg e68, if_neg e71, if_pos e100]; exact hd49.trans (scrGo_eq hf)
 have e100 : ¬ b = 100 := by have h9 := h44; simpa using h9
 refine WC.seq (fun K51 hK51 => WC.r1 hs7 [] rfl ?_)
 refine WC.cq rfl (fun h52 qh52 => ?_) (fun h52 qh52 => ?_)
 ·have e72 : b = 72 := by have h9 := h52; simpa using h9
  refine WC.skip (hK51 _ _ (WC.condT rfl h52 (WC.seq (fun K54 hK54 => WC.rG 7 hs7.d1 hs7 hs7 (fun _ hs55 => ?_)))))
  refine WG.rn [0, 1, 4, 5] hs55 [1] rfl rfl (WG.o1 2 rfl rfl (WL.cl Tryz.call177 rfl (k61_ _ _ _ _ _ _ (SlF.st f_l hs55 s_l) ?_) ?_))
  · first | assumption | rfl | omega | exact blank_ok | (constructor <;> omega)
  rintro _ whs56 ⟨rfl, hs56⟩
  replace hs56 := hs55.call0 hs56
  refine ⟨_, rfl, WL.nil ⟨hs56, WG.rn [3] hs56 [] rfl rfl (WG.o1 6 rfl rfl (WL.cl Tryz.call163 rfl (k62_ s _ _ _ (ownScrR.ok (B := 549755813888) o_s (hs56.ow L_s) (by assumption)) ?_) ?_))⟩⟩
  · first | assumption | rfl | omega | exact blank_ok | (constructor <;> omega)
  rintro _ whs57 ⟨r58, L1_59, rfl, hs57, ho60, hd61⟩
  replace hs57 := hs56.callF hs57
  refine ⟨_, rfl, ?_⟩
  replace hs57 := St.back [_, _] hs57
  refine WL.nil ⟨(hs57.rm L1_59), WG.oK rfl (WL.st tbk hs57 0 rfl rfl (fun _ hs62 => WL.nil ⟨(hs62.d1.rm L1_59), WH.dn (hK54 _ _ (WC.ret (ibR (tkR ?_))))⟩))⟩
  clear hK8
  refine retV1 rfl (resV.cellA tbk hs62 0 rfl rfl rfl rfl) (⟨r58, _, rfl, (St.keep1 (hs62.fr L1_59)), ?_, ?_⟩)
  · exact ho60
  · unfold csiD; rw [if_neg e65, if_neg e66, if_neg e67, if_neg e68, if_neg e71, if_neg e100, if_pos (show b = 72 ∨ b = 102 by omega)]; exact hd61.trans (scrGo_eq hf)
 have e72 : ¬ b = 72 := by have h9 := h52; simpa using h9
 refine WC.region (WL.r 2 hs7 [] rfl (WL.nil (hK51 _ _ ?_)))
 refine WC.cq rfl (fun h63 qh63 => ?_) (fun h63 qh63 => ?_)
 ·have e102 : b = 102 := by have h9 := h63; simpa using h9
  refine WC.seq (fun K64 hK64 => WC.rG 7 hs7.d1 hs7 hs7 (fun _ hs65 => ?_))
  refine WG.rn [0, 1, 4, 5] hs65 [1] rfl rfl (WG.o1 2 rfl rfl (WL.cl Tryz.call177 rfl (k61_ _ _ _ _ _ _ (SlF.st f_l hs65 s_l) ?_) ?_))
  · first | assumption | rfl | omega | exact blank_ok | (constructor <;> omega)
  rintro _ whs66 ⟨rfl, hs66⟩
  replace hs66 := hs65.call0 hs66
  refine ⟨_, rfl, WL.nil ⟨hs66, WG.rn [3] hs66 [] rfl rfl (WG.o1 6 rfl rfl (WL.cl Tryz.call163 rfl (k62_ s _ _ _ (ownScrR.ok (B := 549755813888) o_s (hs66.ow L_s) (by assumption)) ?_) ?_))⟩⟩
  · first | assumption | rfl | omega | exact blank_ok | (constructor <;> omega)
  rintro _ whs67 ⟨r68, L1_69, rfl, hs67, ho70, hd71⟩
  replace hs67 := hs66.callF hs67
  refine ⟨_, rfl, ?_⟩
  replace hs67 := St.back [_, _] hs67
  refine WL.nil ⟨(hs67.rm L1_69), WG.oK rfl (WL.st tbk hs67 0 rfl rfl (fun _ hs72 => WL.nil ⟨(hs72.d1.rm L1_69), WH.dn (hK64 _ _ (WC.ret (ibR (tkR ?_))))⟩))⟩
  clear hK8
  refine retV1 rfl (resV.cellA tbk hs72 0 rfl rfl rfl rfl) (⟨r68, _, rfl, (St.keep1 (hs72.fr L1_69)), ?_, ?_⟩)
  · exact ho70
  · unfold csiD; rw [if_neg e65, if_neg e66, if_neg e67, if_neg e68, if_neg e71, if_neg e100, if_pos (show b = 72 ∨ b = 102 by omega)]; exact hd71.trans (scrGo_eq hf)
 have e102 : ¬ b = 102 := by have h9 := h63; simpa using h9
 refine WC.r1 hs7 [] rfl (WC.cq rfl (fun h73 qh73 => ?_) (fun h73 qh73 => ?_))
 ·have e7 : ¬ (b = 72 ∨ b = 102) := by omega
  have e74 : b = 74 := by have h9 := h73; simpa using h9
  refine WC.sr (WL.r 7 hs7 [1, 1, 1] rfl (WL.cl Tryz.call178 rfl (k64_ s _ _ _ _ _ o_s (hs7.ow L_s) (St.nodupL (hs7.fr L_s)) ?_ ?_) ?_))
  iterate 2 first | assumption | rfl | omega | exact blank_ok | (constructor <;> omega)
  rintro _ whs74 ⟨r75, L1_76, rfl, hs74, ho77, hd78⟩
  replace hs74 := St.lend (hs7.fr L_s) hs74
  refine ⟨_, rfl, ?_⟩
  replace hs74 := St.back [_, _] hs74
  refine WL.st tbk hs74 0 rfl rfl (fun _ hs79 => WL.nil (WC.ret (ibR (tkR ?_))))
  clear hK8
  refine retV1 rfl (resV.cellA tbk hs79 0 rfl rfl rfl rfl) (⟨r75, _, rfl, (St.keep1 (hs79.fr L1_76)), ?_, ?_⟩)
  · exact ho77
  · unfold csiD; rw [if_neg e65, if_neg e66, if_neg e67, if_neg e68, if_neg e71, if_neg e100, if_neg e7, if_pos e74]; exact hd78
 have e7 : ¬ (b = 72 ∨ b = 102) := by omega
 have e74 : ¬ b = 74 := by have h9 := h73; simpa using h9
 refine WC.r1 hs7 [] rfl (WC.cq rfl (fun h80 qh80 => ?_) (fun h80 qh80 => ?_))
 ·have e75 : b = 75 := by have h9 := h80; simpa using h9
  refine WC.sr (WL.r 15 hs7 [1, 1, 1, 1, 1, 1] rfl (WL.cl Tryz.call178 rfl (k64_ s _ _ _ _ _ o_s (hs7.ow L_s) (St.nodupL (hs7.fr L_s)) ?_ ?_) ?_))
  iterate 2 first | assumption | rfl | omega | exact blank_ok | (constructor <;> omega)
  rintro _ whs81 ⟨r82, L1_83, rfl, hs81, ho84, hd85⟩
  replace hs81 := St.lend (hs7.fr L_s) hs81
  refine ⟨_, rfl, ?_⟩
  replace hs81 := St.back [_, _] hs81
  refine WL.st tbk hs81 0 rfl rfl (fun _ hs86 => WL.nil (WC.ret (ibR (tkR ?_))))
  clear hK8
  refine retV1 rfl (resV.cellA tbk hs86 0 rfl rfl rfl rfl) (⟨r82, _, rfl, (St.keep1 (hs86.fr L1_83)), ?_, ?_⟩)
  · exact ho84
  · unfold csiD; rw [if_neg e65, if_neg e66, if_neg e67, if_neg e68, if_neg e71, if_neg e100, if_neg e7, if_neg e74, if_pos e75]; exact hd85.trans (by rw [← hv1]; rfl)
 have e75 : ¬ b = 75 := by have h9 := h80; simpa using h9
 refine WC.r1 hs7 [] rfl (WC.cq rfl (fun h87 qh87 => ?_) (fun h87 qh87 => ?_))
 ·have e88 : b = 88 := by have h9 := h87; simpa using h9
  refine WC.seq (fun K88 hK88 => WC.rG 11 (hs7.d1.rm L_s) (hs7.rm L_s) hs7 (fun _ hs89 => ?_))
  refine WG.rn [0, 1, 3, 4, 5, 6, 7] (hs89.rm L_s) [1, 1, 1, 1] rfl rfl (WG.o1 2 rfl rfl (WL.cl Tryz.call145 rfl (k50_ s _ (ownScrR.ok (B := 549755813888) o_s (hs89.ow L_s) (by assumption))) ?_))
  rintro _ whs90 ⟨rfl, hs90⟩
  replace hs90 := hs89.call0 hs90
  refine ⟨_, rfl, WL.nil ⟨(hs90.rm L_s), WG.o1 8 rfl rfl (WL.cl Tryz.call180 rfl (k20_ _) ?_)⟩⟩
  rintro _ whs91 ⟨rfl, hs91⟩
  replace hs91 := hs90.call0 hs91
  refine ⟨_, rfl, WL.nil ⟨(hs91.rm L_s), WG.o1 9 rfl rfl (WL.cl Tryz.call179 rfl (k78_ (shownR s) _ _ _ _ _ _ _ _ _ _ _ (okScrR.shown (ownScrR.ok (B := 549755813888) o_s (hs91.ow L_s) (by assumption))) ?_ ?_ ?_ ?_ ?_ ?_) ?_)⟩⟩
  iterate 6 first | assumption | rfl | omega | exact blank_ok | (constructor <;> omega)
  rintro _ whs92 ⟨r93, L1_94, rfl, hs92, ho95, hd96⟩
  replace hs92 := hs91.callF hs92
  refine ⟨_, rfl, ?_⟩
  replace hs92 := St.back [_, _] hs92
  have hg9 := hd96
  refine WL.nil ⟨((hs92.rm L1_94).rm L_s), WG.o1 10 rfl rfl (WL.cl Tryz.call143 rfl (k51_ s _ r93 _ _ o_s (hs92.ow L_s) ho95 (hs92.ow L1_94) (St.nodupL (St.grp2 (L1 := L_s) (L2 := L1_94) [] ((hs92.fr L1_94).fr L_s)))) ?_)⟩
  rintro _ whs97 ⟨r98, L1_99, rfl, hs97, ho100, hd101⟩
  replace hs97 := St.lend (St.grp2 (L1 := L_s) (L2 := L1_94) [] ((hs92.fr L1_94).fr L_s)) hs97
  refine ⟨_, rfl, ?_⟩
  replace hs97 := St.back [_, _] hs97
  refine WL.nil ⟨(hs97.rm L1_99), WG.oK rfl (WL.st tbk hs97 0 rfl rfl (fun _ hs102 => WL.nil ⟨(hs102.d1.rm L1_99), WH.dn (hK88 _ _ (WC.ret (ibR (tkR ?_))))⟩))⟩
  clear hK8
  refine retV1 rfl (resV.cellA tbk hs102 0 rfl rfl rfl rfl) (⟨r98, _, rfl, (St.keep1 (hs102.fr L1_99)), ?_, ?_⟩)
  · exact ho100
  · unfold csiD; rw [if_neg e65, if_neg e66, if_neg e67, if_neg e68, if_neg e71, if_neg e100, if_neg e7, if_neg e74, if_neg e75, if_pos e88]; refine hd101.trans ?_; rw [hg9, shownR_dat]; show putD s.dat (gFill (shownD s.dat) s.X s.Y (argI l 0 1) 1 blankC) = _; rw [hfc]; rfl
 have e88 : ¬ b = 88 := by have h9 := h87; simpa using h9
 refine WC.r1 hs7 [] rfl (WC.cq rfl (fun h103 qh103 => ?_) (fun h103 qh103 => ?_))
 ·have e64 : b = 64 := by have h9 := h103; simpa using h9
  refine WC.seq (fun K104 hK104 => WC.rG 10 (hs7.d1.rm L_s) (hs7.rm L_s) hs7 (fun _ hs105 => ?_))
  refine WG.rn [0, 1, 3, 4, 5, 6, 7] (hs105.rm L_s) [1, 1, 1, 1] rfl rfl (WG.o1 2 rfl rfl (WL.cl Tryz.call145 rfl (k50_ s _ (ownScrR.ok (B := 549755813888) o_s (hs105.ow L_s) (by assumption))) ?_))
  rintro _ whs106 ⟨rfl, hs106⟩
  replace hs106 := hs105.call0 hs106
  refine ⟨_, rfl, WL.nil ⟨(hs106.rm L_s), WG.o1 8 rfl rfl (WL.cl Tryz.call181 rfl (k77_ (shownR s) _ _ _ _ (okScrR.shown (ownScrR.ok (B := 549755813888) o_s (hs106.ow L_s) (by assumption))) ?_ ?_ ?_ ?_) ?_)⟩⟩
  iterate 4 first | assumption | rfl | omega | exact blank_ok | (constructor <;> omega)
  rintro _ whs107 ⟨r108, L1_109, rfl, hs107, ho110, hd111⟩
  replace hs107 := hs106.callF hs107
  refine ⟨_, rfl, ?_⟩
  replace hs107 := St.back [_, _] hs107
  have hg9 := hd111
  refine WL.nil ⟨((hs107.rm L1_109).rm L_s), WG.o1 9 rfl rfl (WL.cl Tryz.call143 rfl (k51_ s _ r108 _ _ o_s (hs107.ow L_s) ho110 (hs107.ow L1_109) (St.nodupL (St.grp2 (L1 := L_s) (L2 := L1_109) [] ((hs107.fr L1_109).fr L_s)))) ?_)⟩
  rintro _ whs112 ⟨r113, L1_114, rfl, hs112, ho115, hd116⟩
  replace hs112 := St.lend (St.grp2 (L1 := L_s) (L2 := L1_109) [] ((hs107.fr L1_109).fr L_s)) hs112
  refine ⟨_, rfl, ?_⟩
  replace hs112 := St.back [_, _] hs112
  refine WL.nil ⟨(hs112.rm L1_114), WG.oK rfl (WL.st tbk hs112 0 rfl rfl (fun _ hs117 => WL.nil ⟨(hs117.d1.rm L1_114), WH.dn (hK104 _ _ (WC.ret (ibR (tkR ?_))))⟩))⟩
  clear hK8
  refine retV1 rfl (resV.cellA tbk hs117 0 rfl rfl rfl rfl) (⟨r113, _, rfl, (St.keep1 (hs117.fr L1_114)), ?_, ?_⟩)
  · exact ho115
  · unfold csiD; rw [if_neg e65, if_neg e66, if_neg e67, if_neg e68, if_neg e71, if_neg e100, if_neg e7, if_neg e74, if_neg e75, if_neg e88, if_pos e64]; refine hd116.trans ?_; rw [hg9, shownR_dat]; rfl
 have e64 : ¬ b = 64 := by have h9 := h103; simpa using h9
 refine WC.r1 hs7 [] rfl (WC.cq rfl (fun h118 qh118 => ?_) (fun h118 qh118 => ?_))
 ·have e80 : b = 80 := by have h9 := h118; simpa using h9
  refine WC.seq (fun K119 hK119 => WC.rG 11 (hs7.d1.rm L_s) (hs7.rm L_s) hs7 (fun _ hs120 => ?_))
  refine WG.rn [0, 1, 3, 4, 5, 6, 7, 8] (hs120.rm L_s) [1, 1, 1, 1] rfl rfl (WG.o1 2 rfl rfl (WL.cl Tryz.call145 rfl (k50_ s _ (ownScrR.ok (B := 549755813888) o_s (hs120.ow L_s) (by assumption))) ?_))
  rintro _ whs121 ⟨rfl, hs121⟩
  replace hs121 := hs120.call0 hs121
  refine ⟨_, rfl, WL.nil ⟨(hs121.rm L_s), WG.o1 9 rfl rfl (WL.cl Tryz.call181 rfl (k77_ (shownR s) _ _ _ _ (okScrR.shown (ownScrR.ok (B := 549755813888) o_s (hs121.ow L_s) (by assumption))) ?_ ?_ ?_ ?_) ?_)⟩⟩
  iterate 4 first | assumption | rfl | omega | exact blank_ok | (constructor <;> omega)
  rintro _ whs122 ⟨r123, L1_124, rfl, hs122, ho125, hd126⟩
  replace hs122 := hs121.callF hs122
  refine ⟨_, rfl, ?_⟩
  replace hs122 := St.back [_, _] hs122
  have hg9 := hd126
  refine WL.nil ⟨((hs122.rm L1_124).rm L_s), WG.o1 10 rfl rfl (WL.cl Tryz.call143 rfl (k51_ s _ r123 _ _ o_s (hs122.ow L_s) ho125 (hs122.ow L1_124) (St.nodupL (St.grp2 (L1 := L_s) (L2 := L1_124) [] ((hs122.fr L1_124).fr L_s)))) ?_)⟩
  rintro _ whs127 ⟨r128, L1_129, rfl, hs127, ho130, hd131⟩
  replace hs127 := St.lend (St.grp2 (L1 := L_s) (L2 := L1_124) [] ((hs122.fr L1_124).fr L_s)) hs127
  refine ⟨_, rfl, ?_⟩
  replace hs127 := St.back [_, _] hs127
  refine WL.nil ⟨(hs127.rm L1_129), WG.oK rfl (WL.st tbk hs127 0 rfl rfl (fun _ hs132 => WL.nil ⟨(hs132.d1.rm L1_129), WH.dn (hK119 _ _ (WC.ret (ibR (tkR ?_))))⟩))⟩
  clear hK8
  refine retV1 rfl (resV.cellA tbk hs132 0 rfl rfl rfl rfl) (⟨r128, _, rfl, (St.keep1 (hs132.fr L1_129)), ?_, ?_⟩)
  · exact ho130
  · unfold csiD; rw [if_neg e65, if_neg e66, if_neg e67, if_neg e68, if_neg e71, if_neg e100, if_neg e7, if_neg e74, if_neg e75, if_neg e88, if_neg e64, if_pos e80]; refine hd131.trans ?_; rw [hg9, shownR_dat]; rfl
 have e80 : ¬ b = 80 := by have h9 := h118; simpa using h9
 refine WC.r1 hs7 [] rfl (WC.cq rfl (fun h133 qh133 => ?_) (fun h133 qh133 => ?_))
 ·have e76 : b = 76 := by have h9 := h133; simpa using h9
  refine WC.sr (WL.r 3 hs7 [1] rfl (WL.cl Tryz.call182 rfl (k67_ s _ _ _ o_s (hs7.ow L_s) (St.nodupL (hs7.fr L_s)) ?_ ?_ ?_) ?_))
  iterate 3 first | assumption | rfl | omega | exact blank_ok | (constructor <;> omega)
  rintro _ whs134 ⟨r135, L1_136, rfl, hs134, ho137, hd138⟩
  replace hs134 := St.lend (hs7.fr L_s) hs134
  refine ⟨_, rfl, ?_⟩
  replace hs134 := St.back [_, _] hs134
  refine WL.st tbk hs134 0 rfl rfl (fun _ hs139 => WL.nil (WC.ret (ibR (tkR ?_))))
  clear hK8
  refine retV1 rfl (resV.cellA tbk hs139 0 rfl rfl rfl rfl) (⟨r135, _, rfl, (St.keep1 (hs139.fr L1_136)), ?_, ?_⟩)
  · exact ho137
  · unfold csiD; rw [if_neg e65, if_neg e66, if_neg e67, if_neg e68, if_neg e71, if_neg e100, if_neg e7, if_neg e74, if_neg e75, if_neg e88, if_neg e64, if_neg e80, if_pos e76]; exact hd138
 have e76 : ¬ b = 76 := by have h9 := h133; simpa using h9
 refine WC.r1 hs7 [] rfl (WC.cq rfl (fun h140 qh140 => ?_) (fun h140 qh140 => ?_))
 ·have e77 : b = 77 := by have h9 := h140; simpa using h9
  refine WC.sr (WL.r 2 hs7 [1] rfl (WL.cl Tryz.call182 rfl (k67_ s _ _ _ o_s (hs7.ow L_s) (St.nodupL (hs7.fr L_s)) ?_ ?_ ?_) ?_))
  iterate 3 first | assumption | rfl | omega | exact blank_ok | (constructor <;> omega)
  rintro _ whs141 ⟨r142, L1_143, rfl, hs141, ho144, hd145⟩
  replace hs141 := St.lend (hs7.fr L_s) hs141
  refine ⟨_, rfl, ?_⟩
  replace hs141 := St.back [_, _] hs141
  refine WL.st tbk hs141 0 rfl rfl (fun _ hs146 => WL.nil (WC.ret (ibR (tkR ?_))))
  clear hK8
  refine retV1 rfl (resV.cellA tbk hs146 0 rfl rfl rfl rfl) (⟨r142, _, rfl, (St.keep1 (hs146.fr L1_143)), ?_, ?_⟩)
  · exact ho144
  · unfold csiD; rw [if_neg e65, if_neg e66, if_neg e67, if_neg e68, if_neg e71, if_neg e100, if_neg e7, if_neg e74, if_neg e75, if_neg e88, if_neg e64, if_neg e80, if_neg e76, if_pos e77]; exact hd145
 have e77 : ¬ b = 77 := by have h9 := h140; simpa using h9
 refine WC.r1 hs7 [] rfl (WC.cq rfl (fun h147 qh147 => ?_) (fun h147 qh147 => ?_))
 ·have e83 : b = 83 := by have h9 := h147; simpa using h9
  refine WC.sr (WL.r 2 hs7 [1] rfl (WL.cl Tryz.call183 rfl (k54_ s _ _ _ o_s (hs7.ow L_s) (St.nodupL (hs7.fr L_s)) ?_ ?_ ?_) ?_))
  iterate 3 first | assumption | rfl | omega | exact blank_ok | (constructor <;> omega)
  rintro _ whs148 ⟨r149, L1_150, rfl, hs148, ho151, hd152⟩
  replace hs148 := St.lend (hs7.fr L_s) hs148
  refine ⟨_, rfl, ?_⟩
  replace hs148 := St.back [_, _] hs148
  refine WL.st tbk hs148 0 rfl rfl (fun _ hs153 => WL.nil (WC.ret (ibR (tkR ?_))))
  clear hK8
  refine retV1 rfl (resV.cellA tbk hs153 0 rfl rfl rfl rfl) (⟨r149, _, rfl, (St.keep1 (hs153.fr L1_150)), ?_, ?_⟩)
  · exact ho151
  · unfold csiD; rw [if_neg e65, if_neg e66, if_neg e67, if_neg e68, if_neg e71, if_neg e100, if_neg e7, if_neg e74, if_neg e75, if_neg e88, if_neg e64, if_neg e80, if_neg e76, if_neg e77, if_pos e83]; exact hd152
 have e83 : ¬ b = 83 := by have h9 := h147; simpa using h9
 refine WC.r1 hs7 [] rfl (WC.cq rfl (fun h154 qh154 => ?_) (fun h154 qh154 => ?_))
 ·have e84 : b = 84 := by have h9 := h154; simpa using h9
  refine WC.seq (fun K155 hK155 => WC.rG 11 (hs7.d1.rm L_s) (hs7.rm L_s) hs7 (fun _ hs156 => ?_))
  refine WG.rn [0, 1, 3, 4, 5, 6, 7, 8] (hs156.rm L_s) [1, 1, 1, 1] rfl rfl (WG.o1 2 rfl rfl (WL.cl Tryz.call145 rfl (k50_ s _ (ownScrR.ok (B := 549755813888) o_s (hs156.ow L_s) (by assumption))) ?_))
  rintro _ whs157 ⟨rfl, hs157⟩
  replace hs157 := hs156.call0 hs157
  refine ⟨_, rfl, WL.nil ⟨(hs157.rm L_s), WG.o1 9 rfl rfl (WL.cl Tryz.call144 rfl (k49_ (shownR s) _ _ _ _ (okScrR.shown (ownScrR.ok (B := 549755813888) o_s (hs157.ow L_s) (by assumption))) ?_ ?_ ?_) ?_)⟩⟩
  iterate 3 first | assumption | rfl | omega | exact blank_ok | (constructor <;> omega)
  rintro _ whs158 ⟨r159, L1_160, rfl, hs158, ho161, hd162⟩
  replace hs158 := hs157.callF hs158
  refine ⟨_, rfl, ?_⟩
  replace hs158 := St.back [_, _] hs158
  have hg9 := hd162
  refine WL.nil ⟨((hs158.rm L1_160).rm L_s), WG.o1 10 rfl rfl (WL.cl Tryz.call143 rfl (k51_ s _ r159 _ _ o_s (hs158.ow L_s) ho161 (hs158.ow L1_160) (St.nodupL (St.grp2 (L1 := L_s) (L2 := L1_160) [] ((hs158.fr L1_160).fr L_s)))) ?_)⟩
  rintro _ whs163 ⟨r164, L1_165, rfl, hs163, ho166, hd167⟩
  replace hs163 := St.lend (St.grp2 (L1 := L_s) (L2 := L1_160) [] ((hs158.fr L1_160).fr L_s)) hs163
  refine ⟨_, rfl, ?_⟩
  replace hs163 := St.back [_, _] hs163
  refine WL.nil ⟨(hs163.rm L1_165), WG.oK rfl (WL.st tbk hs163 0 rfl rfl (fun _ hs168 => WL.nil ⟨(hs168.d1.rm L1_165), WH.dn (hK155 _ _ (WC.ret (ibR (tkR ?_))))⟩))⟩
  clear hK8
  refine retV1 rfl (resV.cellA tbk hs168 0 rfl rfl rfl rfl) (⟨r164, _, rfl, (St.keep1 (hs168.fr L1_165)), ?_, ?_⟩)
  · exact ho166
  · unfold csiD; rw [if_neg e65, if_neg e66, if_neg e67, if_neg e68, if_neg e71, if_neg e100, if_neg e7, if_neg e74, if_neg e75, if_neg e88, if_neg e64, if_neg e80, if_neg e76, if_neg e77, if_neg e83, if_pos e84]; refine hd167.trans ?_; rw [hg9, shownR_dat]; rfl
 have e84 : ¬ b = 84 := by have h9 := h154; simpa using h9
 refine WC.r1 hs7 [] rfl (WC.cq rfl (fun h169 qh169 => ?_) (fun h169 qh169 => ?_))
 ·have e109 : b = 109 := by have h9 := h169; simpa using h9
  refine WC.region (WL.r 3 hs7 [1] rfl (WL.cl Tryz.call184 rfl (k76_ _ _ _ _ _ _ _ _ _ _ (SlF.st f_l hs7 s_l) ?_ ?_) ?_))
  iterate 2 first | assumption | rfl | omega | exact blank_ok | (constructor <;> omega)
  rintro _ whs170 ⟨r171, rfl, hs170, hr172⟩
  replace hs170 := hs7.callF hs170
  refine ⟨_, rfl, ?_⟩
  rw [List.nil_append] at hs170
  replace hs170 := St.perm hs170 (L' := [_, _] ++ _) pR
  have hsg : r171 = sgrRes s.A l := hr172
  refine WL.r 1 hs170 [] rfl (WL.st tbk hs170 1 rfl rfl (fun _ hs173 => WL.nil (hK8 _ _ (WC.sr (WL.r 1 hs173 [1] rfl (WL.st tbk hs173 0 rfl rfl (fun _ hs174 => WL.nil ?_)))))))
  refine WC.ret (retV1 rfl (resV.cellA tbk hs174 0 rfl rfl rfl rfl) ?_)
  obtain ⟨L175, L176, L177, L178, hs183, ho179, ho180, ho181, ho182⟩ := ownScrR.op hs174 o_s
  have hs184 := ((hs183.fb b2).fb b4)
  obtain ⟨L186, hs185, ho187⟩ := ownScrR.fl hs184 ho179 ho180 ho181 ho182
  have hs188 := ((hs185.fb b2).fb b4)
  refine ownScrR.ret rfl (St.keep1 (hs188.fr L186)) ho187 ?_
  · unfold csiD; rw [if_neg e65, if_neg e66, if_neg e67, if_neg e68, if_neg e71, if_neg e100, if_neg e7, if_neg e74, if_neg e75, if_neg e88, if_neg e64, if_neg e80, if_neg e76, if_neg e77, if_neg e83, if_neg e84, if_pos e109]; show _ = ({ s.dat with A := sgrRes s.A l } : ScrD); rw [← hsg]; rfl
 have e109 : ¬ b = 109 := by have h9 := h169; simpa using h9
 refine WC.r1 hs7 [] rfl (WC.cq rfl (fun h189 qh189 => ?_) (fun h189 qh189 => ?_))
 ·have e114 : b = 114 := by have h9 := h189; simpa using h9
  refine WC.sr (WL.r 2 hs7 [1] rfl (WL.cl Tryz.call185 rfl (k65_ s _ _ _ _ _ _ o_s (hs7.ow L_s) (SlF.st f_l hs7 s_l) (St.nodupL (hs7.fr L_s)) (St.sepT (hs7.fr L_s) f_l s_l) ?_ ?_ ?_ ?_) ?_))
  iterate 4 first | assumption | omega | exact blank_ok | (constructor <;> omega)
  rintro _ whs190 ⟨r191, L1_192, rfl, hs190, ho193, hd194⟩
  replace hs190 := St.lend (hs7.fr L_s) hs190
  refine ⟨_, rfl, ?_⟩
  replace hs190 := St.back [_, _] hs190
  refine WL.st tbk hs190 0 rfl rfl (fun _ hs195 => WL.nil (WC.ret (ibR (tkR ?_))))
  clear hK8
  refine retV1 rfl (resV.cellA tbk hs195 0 rfl rfl rfl rfl) (⟨r191, _, rfl, (St.keep1 (hs195.fr L1_192)), ?_, ?_⟩)
  · exact ho193
  · unfold csiD; rw [if_neg e65, if_neg e66, if_neg e67, if_neg e68, if_neg e71, if_neg e100, if_neg e7, if_neg e74, if_neg e75, if_neg e88, if_neg e64, if_neg e80, if_neg e76, if_neg e77, if_neg e83, if_neg e84, if_neg e109, if_pos e114]; exact hd194
 have e114 : ¬ b = 114 := by have h9 := h189; simpa using h9
 refine WC.r1 hs7 [] rfl (WC.cq rfl (fun h196 qh196 => ?_) (fun h196 qh196 => ?_))
 ·have e103 : b = 103 := by have h9 := h196; simpa using h9
  refine WC.sr (WL.r 2 hs7 [1] rfl (WL.cl Tryz.call186 rfl (k66_ s _ _ _ o_s (hs7.ow L_s) (St.nodupL (hs7.fr L_s)) ?_ ?_) ?_))
  iterate 2 first | assumption | rfl | omega | exact blank_ok | (constructor <;> omega)
  rintro _ whs197 ⟨r198, L1_199, rfl, hs197, ho200, hd201⟩
  replace hs197 := St.lend (hs7.fr L_s) hs197
  refine ⟨_, rfl, ?_⟩
  replace hs197 := St.back [_, _] hs197
  refine WL.st tbk hs197 0 rfl rfl (fun _ hs202 => WL.nil (WC.ret (ibR (tkR ?_))))
  clear hK8
  refine retV1 rfl (resV.cellA tbk hs202 0 rfl rfl rfl rfl) (⟨r198, _, rfl, (St.keep1 (hs202.fr L1_199)), ?_, ?_⟩)
  · exact ho200
  · unfold csiD; rw [if_neg e65, if_neg e66, if_neg e67, if_neg e68, if_neg e71, if_neg e100, if_neg e7, if_neg e74, if_neg e75, if_neg e88, if_neg e64, if_neg e80, if_neg e76, if_neg e77, if_neg e83, if_neg e84, if_neg e109, if_neg e114, if_pos e103]; exact hd201
 have e103 : ¬ b = 103 := by have h9 := h196; simpa using h9
 refine WC.skip (hK8 _ _ (WC.sr (WL.r 1 hs7 [1] rfl (WL.st tbk hs7 0 rfl rfl (fun _ hs203 => WL.nil (WC.ret (retV1 rfl (resV.cellA tbk hs203 0 rfl rfl rfl rfl) ?_)))))))
 refine ⟨s, _, rfl, (St.keep1 (hs203.fr L_s)), ?_, ?_⟩
 · exact o_s
 · unfold csiD; rw [if_neg e65, if_neg e66, if_neg e67, if_neg e68, if_neg e71, if_neg e100, if_neg e7, if_neg e74, if_neg e75, if_neg e88, if_neg e64, if_neg e80, if_neg e76, if_neg e77, if_neg e83, if_neg e84, if_neg e109, if_neg e114, if_neg e103]
theorem k80_ (s : ScrR) (mark : Bool) (A_l : Option Addr) (n_l c_l : Nat) (l : List Int) (b : Int) (w : World) (f_s : okScrR 549755813888 w s) (f_l : SlF encI w A_l n_l l) (hsm : smScr 1048576 s.dat) (hll : n_l ≤ 549755813888) :
    Calls Tryz.prog 30 #[.agg (cScr s).toArray, .bool mark, .slice A_l n_l c_l, i64 b] w fun e w' => ∃ r L1, e = .returned (.agg (cScr r).toArray) ∧ St w [] L1 w' ∧ ownScrR r L1 ∧ r.dat = scrCsiRes s.dat mark l b := by
 have nb_s_Main_Cells := f_s.Main.Cells_n
 have nl_s_Main_Cells := f_s.Main.Cells.len
 have nb_s_Alt_Cells := f_s.Alt.Cells_n
 have nl_s_Alt_Cells := f_s.Alt.Cells.len
 have nb_s_Tabs := f_s.Tabs_n
 have nl_s_Tabs := f_s.Tabs.len
 have nb_s_Back := f_s.Back_n
 have nl_s_Back := f_s.Back.sl.len
 have hsmB : smScr 549755813888 s.dat := by first | assumption | exact smScr_mono hsm (by decide)
 have hln := f_l.len
 refine enter 64 Tryz.func30 rfl Tryz.ntmps30 rfl rfl ?_
 have hs1 := St.init w
 refine WC.sr (WL.bx hs1 rfl (fun b2 _ hs3 => WL.al hs3 Tryz.zeroValue33 rfl rfl (fun b4 _ hs5 => WL.nil (WC.seq (fun K6 hK6 => WC.sr (WL.r 1 hs5 [1] rfl (WL.cl Tryz.call63 rfl (k41_ s _ (okScrR.st0 f_s hs5)) ?_)))))))
 rintro _ whs7 ⟨rfl, hs7⟩
 replace hs7 := hs5.call0 hs7
 refine ⟨_, rfl, WL.r 2 hs7 [] rfl (WL.pO tbk 3 Acts.nil hs7 [] rfl rfl rfl rfl (fun g_ => trivial) (WL.nil (WC.cq rfl (fun h8 qh8 => ?_) (fun h8 qh8 => ?_))))⟩
 ·have hnk : ¬ (scrOk s.dat = true ∧ areArgs l = true) := by rintro ⟨z1, z2⟩; have z3 := (areArgs_iff.1 z2).1; have h9 := h8; simp [z1] at h9; omega
  refine WC.sr ?_
  refine WL.val rfl rfl rfl (Run.build rfl rfl rfl rfl (built_33)) (WL.st tbk hs7 0 rfl rfl (fun _ hs9 => WL.nil (WC.ret (tkR ?_))))
  clear hK6
  refine retV1 rfl (resV.cellA tbk hs9 0 rfl rfl rfl rfl) ?_
  obtain ⟨L15, hs14, ho16⟩ := ownScrR.fl hs9 (OwnF.nil _ _) (OwnF.nil _ _) (OwnF.nil _ _) (OwnN.nil _ _ _)
  have hs17 := ((hs14.fb b2).fb b4)
  refine ownScrR.ret rfl (St.keep1 (hs17.fr L15)) ho16 ?_
  · rw [csi_not hnk]; rfl
 have hk8 : scrOk s.dat = true ∧ n_l ≤ 8 := by have h9 := h8; simp at h9; exact ⟨h9.1, by omega⟩
 have hk := hk8.1
 have hf := ScrFine.of hk
 refine WC.skip (hK6 _ _ (WC.seq (fun K18 hK18 => WC.r1 hs7 [] rfl (WC.block ?_))))
 refine WC.lS [1, 2, 3, 4, 8, 21, 23, 24] rfl hs7 (fun k_ f w' => ∃ (i : Nat), k_ = n_l - i ∧ (i ≤ n_l) ∧ (∀ j, j < i → 0 ≤ iat l j ∧ iat l j ≤ 9999) ∧ Sub [(25, .int .i64 i)] f) ((fun (i : Nat) => n_l - i) (0)) ?_ ?_
 ·refine ⟨0, rfl, ?_, ?_, ⟨rfl, trivial⟩⟩
  · exact Nat.zero_le _
  · exact fun j hj => absurd hj (by omega)
 clear hs7
 rintro _ f w ⟨i, rfl, p0, p1, hG⟩ hF hs19
 refine WC.sub _ (hG.app hF) ?_
 clear hG hF
 refine WC.r1 hs19 [] rfl (WC.seq (fun K20 hK20 => ?_))
 refine WC.cq rfl (fun h21 qh21 => ?_) (fun h21 qh21 => ?_)
 ·refine WC.skip (hK20 _ _ (WC.seq (fun K22 hK22 => WC.block (WC.sr ?_))))
  refine WL.val rfl rfl rfl (Run.idxN Tryz.runUnderlying23 Tryz.sizeOf3 rfl rfl rfl ?_ ?_ ?_) ?_
  · exact SlF.some_ (SlF.st0 f_l hs19)
  · omega
  · omega
  refine WL.val rfl rfl rfl (Run.load Tryz.isAgg3 rfl rfl (SlF.one1 (SlF.st0 f_l hs19) ?_ rfl)) ?_
  · omega
  refine WL.r 1 hs19 [] rfl (WL.nil (WC.sr (WL.r 3 hs19 [] rfl (WL.pO tbk 2 Acts.nil hs19 [] rfl rfl rfl rfl (fun g_ => trivial) (WL.nil (WC.cq rfl (fun h23 qh23 => ?_) (fun h23 qh23 => ?_)))))))
  ·have hnk : ¬ (scrOk s.dat = true ∧ areArgs l = true) := by rintro ⟨z1, z2⟩; have z3 := (areArgs_iff.1 z2).2 _ (gat_mem (F := encI) (show i < l.length by omega)); have z4 : 0 ≤ iat l i ∧ iat l i ≤ 9999 := z3; have h9 := h23; simp at h9; omega
   refine WC.sr ?_
   refine WL.val rfl rfl rfl (Run.build rfl rfl rfl rfl (built_33)) (WL.st tbk hs19 0 rfl rfl (fun _ hs24 => WL.nil (WC.ret (ibR (tkR (tkR (ibR (tkR ?_))))))))
   clear hK22 hK18
   refine retV1 rfl (resV.cellA tbk hs24 0 rfl rfl rfl rfl) ?_
   obtain ⟨L30, hs29, ho31⟩ := ownScrR.fl hs24 (OwnF.nil _ _) (OwnF.nil _ _) (OwnF.nil _ _) (OwnN.nil _ _ _)
   have hs32 := ((hs29.fb b2).fb b4)
   refine ownScrR.ret rfl (St.keep1 (hs32.fr L30)) ho31 ?_
   · rw [csi_not hnk]; rfl
  have hin : 0 ≤ iat l i ∧ iat l i ≤ 9999 := by have h9 := h23; simp at h9; omega
  refine WC.skip (hK22 _ _ (WC.region (WL.r 2 hs19 [] rfl (WL.nil (tkN ?_)))))
  refine ⟨sbF rfl, hs19, _, ?_, i + 1, rfl, ?_, ?_, ⟨rfl, trivial⟩⟩
  · omega
  · omega
  · intro j hj; rcases Nat.lt_or_ge j i with h_ | h_
    · exact p1 j h_
    · obtain rfl : j = i := by omega
      exact hin
 have hl : areArgs l = true := areArgs_iff.2 ⟨by omega, fun x hx => by obtain ⟨j, hj, rfl⟩ := List.mem_iff_getElem.1 hx; have z5 := p1 j (by omega); rwa [show iat l j = l[j] from gat_lt (F := encI) hj] at z5⟩
 refine WC.exit (hK18 _ _ (WC.sr (WL.r 1 hs19 [1] rfl ?_)))
 refine WL.cl Tryz.call64 rfl (k45_ s _ (okScrR.st0 f_s hs19) ?_) ?_
 · first | assumption | rfl | omega | (exact fine_smB hfc (by decide))
 rintro _ whs33 ⟨r34, L1_35, rfl, hs33, ho36, hd37⟩
 replace hs33 := hs19.callF hs33
 refine ⟨_, rfl, ?_⟩
 replace hs33 := St.back [_, _] hs33
 have hcp := hd37
 have hfc : ScrFine (ScrR.dat _) := hcp.symm ▸ hf
 refine WL.al hs33 Tryz.zeroValue33 rfl rfl (fun b38 _ hs39 => WL.st tbk hs39 0 rfl rfl (fun _ hs40 => WL.nil (WC.seq (fun K41 hK41 => WC.r1 hs40 [] rfl ?_))))
 refine WC.cq rfl (fun h42 qh42 => ?_) (fun h42 qh42 => ?_)
 ·have hmk : mark = false := by have h9 := h42; simpa using h9
  refine WC.sr (WL.r 3 hs40 [0] rfl (WL.cl Tryz.call99 rfl (k79_ r34 _ _ _ _ _ _ _ ho36 (hs40.ow L1_35) (SlF.st0 f_l hs40) (St.nodupL (hs40.fr L1_35)) (St.sep (hs40.fr L1_35) f_l) ?_ ?_ ?_ ?_) ?_))
  iterate 4 first | assumption | omega | (exact fine_smB hfc (by decide))
  rintro _ whs43 ⟨r44, L1_45, rfl, hs43, ho46, hd47⟩
  replace hs43 := St.lend (hs40.fr L1_35) hs43
  refine ⟨_, rfl, ?_⟩
  replace hs43 := St.back [_, _, _] hs43
  refine WL.st tbk hs43 1 rfl rfl (fun _ hs48 => WL.nil (WC.ret (tkR ?_)))
  clear hK41
  refine retV1 rfl (resV.cellA tbk hs48 1 rfl rfl rfl rfl) (⟨r44, _, rfl, (St.keep1 (hs48.fr L1_45)), ?_, ?_⟩)
  · exact ho46
  · rw [csi_yes hk hl, hmk]; exact hd47.trans (by rw [hcp]; rfl)
 have hmk : mark = true := by have h9 := h42; simpa using h9
 refine WC.skip (hK41 _ _ (WC.seq (fun K49 hK49 => WC.r1 hs40 [] rfl (WC.block ?_))))
 have hM54 := (St.grp1 (L1 := L1_35) [_] ((((hs40.fb b2).fb b4).fr L1_35).fb b38))
 refine WC.lV [3, 8, 11, 21, 26, 40, 45, 46] rfl hM54 (fun k_ (a_ : Hp) f => ∃ (i : Nat) (r : ScrR) (L52 : Hp), k_ = n_l - i ∧ a_ = [(b38, .cells (List.toArray (cScr r)) 33 (0, 0))] ++ L52 ∧ (i ≤ n_l) ∧ (r.dat = modeTo s.dat l b i) ∧ ownScrR r L52 ∧ Sub [(47, .int .i64 i)] f) (((fun (i : Nat) => n_l - i) (0))) ?_ ?_
 ·refine ⟨0, r34, L1_35, rfl, rfl, ?_, ?_, ho36, ⟨rfl, trivial⟩⟩
  · exact Nat.zero_le _
  · rw [modeTo_zero]; exact hcp
 rintro _ _ f w ⟨i, r, L52, rfl, rfl, p0, p1, ho53, hG⟩ hF hs55
 refine WC.sub _ (hG.app hF) ?_
 clear hG hF
 replace hs55 := St.ungrp1 [_] hs55
 have hs56 := (((hs55.fb b2).fb b4).fb b38)
 have hfr : ScrFine r.dat := by rw [p1]; exact hf.modeT
 have hsmr : smScr 549755813888 r.dat := fine_smB hfr (by decide)
 refine WC.r1 hs56 [] rfl (WC.seq (fun K57 hK57 => ?_))
 refine WC.cq rfl (fun h58 qh58 => ?_) (fun h58 qh58 => ?_)
 ·refine WC.skip (hK57 _ _ (WC.seq (fun K59 hK59 => WC.block (WC.sr ?_))))
  refine WL.val rfl rfl rfl (Run.idxN Tryz.runUnderlying23 Tryz.sizeOf3 rfl rfl rfl ?_ ?_ ?_) ?_
  · exact SlF.some_ (SlF.st0 f_l hs56)
  · omega
  · omega
  refine WL.val rfl rfl rfl (Run.load Tryz.isAgg3 rfl rfl (SlF.one1 (SlF.st0 f_l hs56) ?_ rfl)) ?_
  · omega
  refine WL.r 1 hs56 [] rfl (WL.nil (WC.sr (WL.r 3 hs56 [] rfl (WL.pO tbk 2 Acts.nil hs56 [] rfl rfl rfl rfl (fun g_ => trivial) (WL.nil (WC.cq rfl (fun h60 qh60 => ?_) (fun h60 qh60 => ?_)))))))
  ·have hbb : b = 104 ∨ b = 108 := by have h9 := h60; simp at h9; exact h9
   refine WC.region (WL.r 4 hs56 [0] rfl (WL.cl Tryz.call100 rfl (k68_ r _ _ _ _ ho53 (hs56.ow L52) (St.nodupL (hs56.fr L52)) ?_ ?_) ?_))
   iterate 2 first | assumption | rfl | omega | (exact fine_smB hfc (by decide))
   rintro _ whs61 ⟨r62, L1_63, rfl, hs61, ho64, hd65⟩
   replace hs61 := St.lend (hs56.fr L52) hs61
   refine ⟨_, rfl, ?_⟩
   replace hs61 := St.back [_, _, _] hs61
   refine WL.st tbk hs61 0 rfl rfl (fun _ hs66 => WL.nil (hK59 _ _ (WC.region (WL.r 2 hs66 [] rfl (WL.nil (tkN ?_))))))
   have hF67 := (St.grp1 (L1 := L1_63) [_] ((((hs66.fb b2).fb b4).fr L1_63).fb b38))
   refine ⟨sbF rfl, _, hF67, _, ?_, i + 1, r62, L1_63, rfl, rfl, ?_, ?_, ho64, ⟨rfl, trivial⟩⟩
   · omega
   · omega
   · first | (rw [modeTo_next hbb (by omega), ← p1]; exact hd65) | (rw [modeTo_same hbb]; exact p1)
  have hbb : ¬ (b = 104 ∨ b = 108) := by have h9 := h60; simp at h9; omega
  refine WC.skip (hK59 _ _ (WC.region (WL.r 2 hs56 [] rfl (WL.nil (tkN ?_)))))
  have hF68 := (St.grp1 (L1 := L52) [_] ((((hs56.fb b2).fb b4).fr L52).fb b38))
  refine ⟨sbF rfl, _, hF68, _, ?_, i + 1, r, L52, rfl, rfl, ?_, ?_, ho53, ⟨rfl, trivial⟩⟩
  · omega
  · omega
  · first | (rw [modeTo_next hbb (by omega), ← p1]; exact hd65) | (rw [modeTo_same hbb]; exact p1)
 refine WC.exit (hK49 _ _ (WC.sr (WL.r 1 hs56 [0] rfl (WL.st tbk hs56 1 rfl rfl (fun _ hs69 => WL.nil (WC.ret (retV1 rfl (resV.cellA tbk hs69 1 rfl rfl rfl rfl) ?_)))))))
 refine ⟨r, _, rfl, (St.keep1 (hs69.fr L52)), ?_, ?_⟩
 · exact ho53
 · rw [csi_yes hk hl, hmk, p1]; exact modeTo_all (by omega)
theorem k81_ (s : ScrR) (b : Int) (w : World) (f_s : okScrR 549755813888 w s) (hsm : smScr 1048576 s.dat) :
    Calls Tryz.prog 20 #[.agg (cScr s).toArray, i64 b] w fun e w' => ∃ r L1, e = .returned (.agg (cScr r).toArray) ∧ St w [] L1 w' ∧ ownScrR r L1 ∧ r.dat = scrEscRes s.dat b := by
 have nb_s_Main_Cells := f_s.Main.Cells_n
 have nl_s_Main_Cells := f_s.Main.Cells.len
 have nb_s_Alt_Cells := f_s.Alt.Cells_n
 have nl_s_Alt_Cells := f_s.Alt.Cells.len
 have nb_s_Tabs := f_s.Tabs_n
 have nl_s_Tabs := f_s.Tabs.len
 have nb_s_Back := f_s.Back_n
 have nl_s_Back := f_s.Back.sl.len
 have hsmB : smScr 549755813888 s.dat := by first | assumption | exact smScr_mono hsm (by decide)
 refine enter 80 Tryz.func20 rfl Tryz.ntmps20 rfl rfl ?_
 have hs1 := St.init w
 refine WC.sr (WL.bx hs1 rfl (fun b2 _ hs3 => WL.al hs3 Tryz.zeroValue33 rfl rfl (fun b4 _ hs5 => WL.nil (WC.seq (fun K6 hK6 => WC.sr (WL.r 1 hs5 [1] rfl (WL.cl Tryz.call63 rfl (k41_ s _ (okScrR.st0 f_s hs5)) ?_)))))))
 rintro _ whs7 ⟨rfl, hs7⟩
 replace hs7 := hs5.call0 hs7
 refine ⟨_, rfl, WL.r 1 hs7 [] rfl (WL.nil (WC.cq rfl (fun h8 qh8 => ?_) (fun h8 qh8 => ?_)))⟩
 ·have hk : scrOk s.dat = false := by have h9 := h8; simpa using h9
  refine WC.sr ?_
  refine WL.val rfl rfl rfl (Run.build rfl rfl rfl rfl (built_33)) (WL.st tbk hs7 0 rfl rfl (fun _ hs9 => WL.nil (WC.ret (tkR ?_))))
  clear hK6
  refine retV1 rfl (resV.cellA tbk hs9 0 rfl rfl rfl rfl) ?_
  obtain ⟨L15, hs14, ho16⟩ := ownScrR.fl hs9 (OwnF.nil _ _) (OwnF.nil _ _) (OwnF.nil _ _) (OwnN.nil _ _ _)
  have hs17 := ((hs14.fb b2).fb b4)
  refine ownScrR.ret rfl (St.keep1 (hs17.fr L15)) ho16 ?_
  · unfold scrEscRes; rw [hk]; rfl
 have hk : scrOk s.dat = true := by have h9 := h8; simpa using h9
 have hf := ScrFine.of hk
 have hds : scrDownRes s.dat = downD s.dat := by unfold scrDownRes; rw [if_pos hk]
 have hus : scrUpRes s.dat = upD s.dat := by unfold scrUpRes; rw [if_pos hk]
 have hok9 := hf.ok
 obtain ⟨hb1, hb2, hb3, hb4, hb5, hb6⟩ := scrOk_bnd hok9
 obtain ⟨hm, hma⟩ := scrOk_main hok9
 simp only [ScrR.dat, GridR.dat, List.length_map] at hb1 hb2 hb3 hb4 hb5 hb6
 refine WC.skip (hK6 _ _ (WC.sr (WL.r 1 hs7 [1] rfl ?_)))
 refine WL.cl Tryz.call64 rfl (k45_ s _ (okScrR.st0 f_s hs7) ?_) ?_
 · first | assumption | rfl | omega | (rw [hk]; assumption)
 rintro _ whs18 ⟨r19, L1_20, rfl, hs18, ho21, hd22⟩
 replace hs18 := hs7.callF hs18
 refine ⟨_, rfl, ?_⟩
 replace hs18 := St.back [_, _] hs18
 have hcp := hd22
 refine WL.al hs18 Tryz.zeroValue33 rfl rfl (fun b23 _ hs24 => WL.st tbk hs24 0 rfl rfl (fun _ hs25 => WL.nil (WC.seq (fun K26 hK26 => WC.r1 hs25 [] rfl (WC.block (WC.r1 hs25 [] rfl ?_))))))
 refine WC.cq rfl (fun h27 qh27 => ?_) (fun h27 qh27 => ?_)
 ·have e68 : b = 68 := by have h9 := h27; simpa using h9
  refine WC.sr (WL.r 1 hs25 [2] rfl (WL.cl Tryz.call65 rfl (k56_ s _ (okScrR.st0 f_s hs25) ?_) ?_))
  · first | assumption | rfl | omega | (rw [hd22]; assumption)
  rintro _ whs28 ⟨r29, L1_30, rfl, hs28, ho31, hd32⟩
  replace hs28 := hs25.callF hs28
  refine ⟨_, rfl, ?_⟩
  replace hs28 := St.back [_, _, _] hs28
  refine WL.st tbk hs28 1 rfl rfl (fun _ hs33 => WL.nil (WC.ret (ibR (tkR ?_))))
  clear hK26
  refine retV1 rfl (resV.cellA tbk hs33 1 rfl rfl rfl rfl) (⟨r29, _, rfl, (St.keep1 (hs33.fr L1_30)), ?_, ?_⟩)
  · exact ho31
  · unfold scrEscRes; rw [if_pos hk]; unfold escD; rw [if_pos e68]; exact hd32.trans hds
 have e68 : ¬ b = 68 := by have h9 := h27; simpa using h9
 refine WC.r1 hs25 [] rfl (WC.cq rfl (fun h34 qh34 => ?_) (fun h34 qh34 => ?_))
 ·have e77 : b = 77 := by have h9 := h34; simpa using h9
  refine WC.sr (WL.r 1 hs25 [2] rfl (WL.cl Tryz.call66 rfl (k57_ s _ (okScrR.st0 f_s hs25) ?_) ?_))
  · first | assumption | rfl | omega | (rw [hd32]; assumption)
  rintro _ whs35 ⟨r36, L1_37, rfl, hs35, ho38, hd39⟩
  replace hs35 := hs25.callF hs35
  refine ⟨_, rfl, ?_⟩
  replace hs35 := St.back [_, _, _] hs35
  refine WL.st tbk hs35 1 rfl rfl (fun _ hs40 => WL.nil (WC.ret (ibR (tkR ?_))))
  clear hK26
  refine retV1 rfl (resV.cellA tbk hs40 1 rfl rfl rfl rfl) (⟨r36, _, rfl, (St.keep1 (hs40.fr L1_37)), ?_, ?_⟩)
  · exact ho38
  · unfold scrEscRes; rw [if_pos hk]; unfold escD; rw [if_neg e68, if_pos e77]; exact hd39.trans hus
 have e77 : ¬ b = 77 := by have h9 := h34; simpa using h9
 refine WC.r1 hs25 [] rfl (WC.cq rfl (fun h41 qh41 => ?_) (fun h41 qh41 => ?_))
 ·have e69 : b = 69 := by have h9 := h41; simpa using h9
  refine WC.sr (WL.r 1 hs25 [2] rfl (WL.cl Tryz.call65 rfl (k56_ s _ (okScrR.st0 f_s hs25) ?_) ?_))
  · first | assumption | rfl | omega | (rw [hd39]; assumption)
  rintro _ whs42 ⟨r43, L1_44, rfl, hs42, ho45, hd46⟩
  replace hs42 := hs25.callF hs42
  refine ⟨_, rfl, ?_⟩
  replace hs42 := St.back [_, _, _] hs42
  have hdn := hd46
  refine WL.st tbk hs42 0 rfl rfl (fun _ hs47 => WL.nil (WC.region (WL.r 1 hs47 [] rfl (WL.st tbk hs47 0 rfl rfl (fun _ hs48 => WL.nil (hK26 _ _ (WC.sr ?_)))))))
  refine WL.r 1 hs48 [0] rfl (WL.st tbk hs48 1 rfl rfl (fun _ hs49 => WL.nil (WC.ret (retV1 rfl (resV.cellA tbk hs49 1 rfl rfl rfl rfl) ?_))))
  obtain ⟨L50, L51, L52, L53, hs58, ho54, ho55, ho56, ho57⟩ := ownScrR.op hs49 ho45
  have hs59 := (((hs58.fb b2).fb b4).fb b23)
  obtain ⟨L61, hs60, ho62⟩ := ownScrR.fl hs59 ho54 ho55 ho56 ho57
  have hs63 := (((hs60.fb b2).fb b4).fb b23)
  refine ownScrR.ret rfl (St.keep1 (hs63.fr L61)) ho62 ?_
  · unfold scrEscRes; rw [if_pos hk]; unfold escD; rw [if_neg e68, if_neg e77, if_pos e69]; show _ = ({ downD s.dat with X := 0 } : ScrD); rw [← hds, ← hdn]; rfl
 have e69 : ¬ b = 69 := by have h9 := h41; simpa using h9
 refine WC.r1 hs25 [] rfl (WC.cq rfl (fun h64 qh64 => ?_) (fun h64 qh64 => ?_))
 ·have e55 : b = 55 := by have h9 := h64; simpa using h9
  refine WC.region (WL.r 1 hs25 [0] rfl (WL.cl Tryz.call67 rfl (k58_ r19 _ _ ho21 (hs25.ow L1_20) (St.nodupL (hs25.fr L1_20))) ?_))
  rintro _ whs65 ⟨r66, L1_67, rfl, hs65, ho68, hd69⟩
  replace hs65 := St.lend (hs25.fr L1_20) hs65
  refine ⟨_, rfl, ?_⟩
  replace hs65 := St.back [_, _, _] hs65
  refine WL.st tbk hs65 0 rfl rfl (fun _ hs70 => WL.nil (hK26 _ _ (WC.sr (WL.r 1 hs70 [0] rfl (WL.st tbk hs70 1 rfl rfl (fun _ hs71 => WL.nil (WC.ret ?_)))))))
  refine retV1 rfl (resV.cellA tbk hs71 1 rfl rfl rfl rfl) (⟨r66, _, rfl, (St.keep1 (hs71.fr L1_67)), ?_, ?_⟩)
  · exact ho68
  · unfold scrEscRes; rw [if_pos hk]; unfold escD; rw [if_neg e68, if_neg e77, if_neg e69, if_pos e55]; exact hd69.trans (by rw [hcp])
 have e55 : ¬ b = 55 := by have h9 := h64; simpa using h9
 refine WC.r1 hs25 [] rfl (WC.cq rfl (fun h72 qh72 => ?_) (fun h72 qh72 => ?_))
 ·have e56 : b = 56 := by have h9 := h72; simpa using h9
  refine WC.region (WL.r 1 hs25 [0] rfl (WL.cl Tryz.call68 rfl (k59_ r19 _ _ ho21 (hs25.ow L1_20) (St.nodupL (hs25.fr L1_20))) ?_))
  rintro _ whs73 ⟨r74, L1_75, rfl, hs73, ho76, hd77⟩
  replace hs73 := St.lend (hs25.fr L1_20) hs73
  refine ⟨_, rfl, ?_⟩
  replace hs73 := St.back [_, _, _] hs73
  refine WL.st tbk hs73 0 rfl rfl (fun _ hs78 => WL.nil (hK26 _ _ (WC.sr (WL.r 1 hs78 [0] rfl (WL.st tbk hs78 1 rfl rfl (fun _ hs79 => WL.nil (WC.ret ?_)))))))
  refine retV1 rfl (resV.cellA tbk hs79 1 rfl rfl rfl rfl) (⟨r74, _, rfl, (St.keep1 (hs79.fr L1_75)), ?_, ?_⟩)
  · exact ho76
  · unfold scrEscRes; rw [if_pos hk]; unfold escD; rw [if_neg e68, if_neg e77, if_neg e69, if_neg e55, if_pos e56]; exact hd77.trans (by rw [hcp])
 have e56 : ¬ b = 56 := by have h9 := h72; simpa using h9
 refine WC.r1 hs25 [] rfl (WC.cq rfl (fun h80 qh80 => ?_) (fun h80 qh80 => ?_))
 ·have e72 : b = 72 := by have h9 := h80; simpa using h9
  refine WC.sr (WL.buildF (F := encI) hs25 ([]) Tryz.runUnderlying23 Tryz.sizeOf3 Tryz.zeroValue3 rfl rfl rfl rfl rfl rfl rfl rfl rfl rfl rfl rfl (fun A84 c85 L81 whs82 hs82 ho83 => ?_))
  replace hs82 := St.back [_, _, _] hs82
  refine WL.r 1 hs82 [] rfl (WL.nil (WC.seq (fun K86 hK86 => WC.r1 hs82 [] rfl (WC.block ?_))))
  have hM91 := (St.grp1 (L1 := L81) [] (((((hs82.fr L1_20).fb b2).fb b4).fb b23).fr L81))
  refine WC.lV [2, 4, 5, 12, 16, 17, 21, 25, 30, 34, 38] rfl hM91 (fun k_ (a_ : Hp) f => ∃ (i : Nat) (zs : List Int) (A87 : Option Addr) (c88 : Nat) (L89 : Hp), k_ = s.W.toNat - i ∧ a_ = L89 ∧ ((i : Int) ≤ s.W) ∧ (zs = tabTo s.dat i) ∧ OwnF encI 3 (.slice A87 (zs).length c88) (zs) L89 ∧ Sub [(6, .slice A87 (zs).length c88), (7, .int .i64 i)] f) (((fun (i : Nat) (zs : List Int) => s.W.toNat - i) (0) ([]))) ?_ ?_
  ·refine ⟨0, [], A84, c85, L81, rfl, rfl, ?_, ?_, ho83, ⟨rfl, rfl, trivial⟩⟩
   · omega
   · rfl
  rintro _ L89 f w ⟨i, zs, A87, c88, _, rfl, rfl, p0, p1, ho90, hG⟩ hF hs92
  refine WC.sub _ (hG.app hF) ?_
  clear hG hF
  replace hs92 := St.ungrp1 [] hs92
  have hs93 := (((hs92.fb b2).fb b4).fb b23)
  have hzl : zs.length ≤ i := by rw [p1]; exact tabTo_le
  refine WC.seq (fun K94 hK94 => WC.r1 hs93 [2] rfl ?_)
  refine WC.cq rfl (fun h95 qh95 => ?_) (fun h95 qh95 => ?_)
  ·refine WC.skip (hK94 _ _ (WC.seq (fun K96 hK96 => WC.block (WC.sr (WL.r 5 hs93 [2] rfl ?_)))))
   apply WL.gO 4 Acts.nil hs93 rfl
   ·intro g97 J98
    have qg97 := g97
    try simp only [bf, within_iff, within_not] at qg97
    refine WL.runA tbk 3 (Acts.nil.cons (j := 4) rfl g97) hs93 [2] rfl ⟨rfl, trivial⟩ (WL.call (wantF rfl g97) rfl rfl (Run.call Tryz.call69 rfl rfl rfl) (k72_ _ _ _ _ _ _ (SlF.st0 f_s.Tabs hs93) ?_) ?_)
    · first | assumption | rfl | omega | (rw [hd77]; assumption)
    rintro _ whs99 ⟨rfl, hs99⟩
    replace hs99 := hs93.call0 hs99
    refine ⟨_, rfl, WL.eO 4 Acts.nil J98 hs99 g97 rfl rfl⟩
   intro _ hs100
   refine WL.nil (WC.cq rfl (fun h101 qh101 => ?_) (fun h101 qh101 => ?_))
   ·have hin : (i : Int) = s.dat.X ∨ s.dat.Tabs.contains (i : Int) = true := by show (i : Int) = s.X ∨ s.Tabs.xs.contains (i : Int) = true; have h9 := h101; simpa using h9
    refine WC.region (WL.r 2 hs100 [] rfl (WL.buildSlice hs100 Tryz.runUnderlying23 Tryz.sizeOf3 Tryz.zeroValue3 rfl rfl rfl rfl rfl rfl rfl rfl rfl rfl (fun b102 whs103 hs103 => ?_)))
    refine WL.appendG (hs103.fr L89) ho90 (srcI1 Tryz.underlying23 (hs103.own _ (nthL_mem (i := 0) rfl)).1) Tryz.underlying23 inf3 rfl rfl rfl rfl rfl rfl rfl rfl rfl rfl ?_ (fun A107 c108 L104 whs105 hs105 ho106 => ?_)
    · simp; omega
    replace hs105 := St.back [_, _, _, _] hs105
    refine WL.r 1 hs105 [] rfl (WL.nil (hK96 _ _ (WC.region (WL.r 3 hs105 [] rfl (WL.nil (tkN ?_))))))
    replace hs105 := hs105.d1
    have hF109 := (St.grp1 (L1 := L104) [] (((((hs105.fr L1_20).fb b2).fb b4).fb b23).fr L104))
    refine ⟨sbF rfl, _, hF109, _, ?_, i + 1, _, A107, c108, L104, rfl, rfl, ?_, ?_, ho106, ⟨rfl, rfl, trivial⟩⟩
    · omega
    · omega
    · rw [p1]; first | exact (tabTo_in hin).symm | exact (tabTo_out hout).symm
   have hout : ¬ ((i : Int) = s.dat.X ∨ s.dat.Tabs.contains (i : Int) = true) := by show ¬ ((i : Int) = s.X ∨ s.Tabs.xs.contains (i : Int) = true); have h9 := h101; simpa using h9
   refine WC.skip (hK96 _ _ (WC.region (WL.r 3 hs100 [] rfl (WL.nil (tkN ?_)))))
   have hF110 := (St.grp1 (L1 := L89) [] (((((hs100.fr L1_20).fb b2).fb b4).fb b23).fr L89))
   refine ⟨sbF rfl, _, hF110, _, ?_, i + 1, _, A87, c88, L89, rfl, rfl, ?_, ?_, ho90, ⟨rfl, rfl, trivial⟩⟩
   · omega
   · omega
   · rw [p1]; first | exact (tabTo_in hin).symm | exact (tabTo_out hout).symm
  refine WC.exit (hK86 _ _ (WC.region (WL.r 2 hs93 [] rfl (WL.st tbk hs93 0 rfl rfl (fun _ hs111 => WL.nil (hK26 _ _ (WC.sr ?_)))))))
  refine WL.r 1 hs111 [0] rfl (WL.st tbk hs111 1 rfl rfl (fun _ hs112 => WL.nil (WC.ret (retV1 rfl (resV.cellA tbk hs112 1 rfl rfl rfl rfl) ?_))))
  obtain ⟨L113, L114, L115, L116, hs121, ho117, ho118, ho119, ho120⟩ := ownScrR.op hs112 ho21
  have hs122 := (((hs121.fb b2).fb b4).fb b23)
  obtain ⟨L124, hs123, ho125⟩ := ownScrR.fl hs122 ho117 ho118 ho90 ho120
  have hs126 := (((hs123.fb b2).fb b4).fb b23)
  refine ownScrR.ret rfl (St.keep1 (hs126.fr L124)) ho125 ?_
  · unfold scrEscRes; rw [if_pos hk]; unfold escD; rw [if_neg e68, if_neg e77, if_neg e69, if_neg e55, if_neg e56, if_pos e72]; refine Eq.trans ?_ (show ({ s.dat with Tabs := zs } : ScrD) = tabD s.dat from by rw [p1, show i = s.dat.W.toNat by (show i = s.W.toNat; omega)]; rfl); rw [← hcp]; rfl
 have e72 : ¬ b = 72 := by have h9 := h80; simpa using h9
 refine WC.r1 hs25 [] rfl (WC.cq rfl (fun h127 qh127 => ?_) (fun h127 qh127 => ?_))
 ·have e99 : b = 99 := by have h9 := h127; simpa using h9
  refine WC.sr (WL.r 6 hs25 [2, 2, 2] rfl (WL.cl Tryz.call70 rfl (k30_ _ _ _ _) ?_))
  rintro _ whs128 ⟨r0_129, L0_130, rfl, hs128, ho131, hd0_132⟩
  replace hs128 := hs25.callF hs128
  refine ⟨_, rfl, ?_⟩
  replace hs128 := St.back [_, _, _] hs128
  refine WL.r 3 hs128 [] rfl (WL.al hs128 Tryz.zeroValue33 rfl rfl (fun b133 _ hs134 => WL.st tbk hs134 0 rfl rfl (fun _ hs135 => WL.r 1 hs135 [] rfl (WL.nil (WC.sr (WL.r 3 hs135 [1] rfl (WL.st tbk hs135 0 rfl rfl (fun _ hs136 => ?_))))))))
  refine WL.nil (WC.sr (WL.r 1 hs136 [0] rfl (WL.st tbk hs136 2 rfl rfl (fun _ hs137 => WL.nil (WC.ret (ibR (tkR ?_)))))))
  clear hK26
  refine retV1 rfl (resV.cellA tbk hs137 2 rfl rfl rfl rfl) ?_
  obtain ⟨L138, L139, L140, L141, hs146, ho142, ho143, ho144, ho145⟩ := ownScrR.op hs137 ho131
  have hs147 := ((((hs146.fb b2).fb b4).fb b23).fb b133)
  obtain ⟨L148, L149, L150, L151, hs156, ho152, ho153, ho154, ho155⟩ := ownScrR.op hs147 ho21
  have hs157 := ((((hs156.fb b2).fb b4).fb b23).fb b133)
  obtain ⟨L159, hs158, ho160⟩ := ownScrR.fl hs157 ho142 ho143 ho144 ho155
  have hs161 := ((((hs158.fb b2).fb b4).fb b23).fb b133)
  refine ownScrR.ret rfl (St.keep1 (hs161.fr L159)) ho160 ?_
  · unfold scrEscRes; rw [if_pos hk]; unfold escD; rw [if_neg e68, if_neg e77, if_neg e69, if_neg e55, if_neg e56, if_neg e72, if_pos e99]; have hm9 : scrRes s.W s.H s.Limit = scrNew s.W s.H s.Limit := by { unfold scrRes scrMay; rw [if_pos]; rw [Bool.and_eq_true, within_iff]; exact ⟨hf.size, hf.lim.1⟩ }; refine Eq.trans ?_ (show ({ scrRes s.W s.H s.Limit with Back := s.dat.Back } : ScrD) = resetD s.dat from by rw [hm9]; rfl); rw [← hd0_132, ← hcp]; rfl
 have e99 : ¬ b = 99 := by have h9 := h127; simpa using h9
 refine WC.skip (hK26 _ _ (WC.sr (WL.r 1 hs25 [0] rfl (WL.st tbk hs25 1 rfl rfl (fun _ hs162 => WL.nil (WC.ret (retV1 rfl (resV.cellA tbk hs162 1 rfl rfl rfl rfl) ?_)))))))
 refine ⟨r19, _, rfl, (St.keep1 (hs162.fr L1_20)), ?_, ?_⟩
 · exact ho21
 · unfold scrEscRes; rw [if_pos hk]; unfold escD; rw [if_neg e68, if_neg e77, if_neg e69, if_neg e55, if_neg e56, if_neg e72, if_neg e99]; exact hcp
theorem nthL_eq : ∀ (L : Hp) (i : Nat), nthL L i = L[i]?
 | [], _ => rfl
 | _ :: _, 0 => rfl
 | _ :: L, i + 1 => (nthL_eq L i).trans (by simp)
section
variable {P : Program} {w0 w : World} {T : List Nat} {L : Hp} {n : Nat} {ol : List Oper} {o : Oper} {rest : List Oper} {f : Fr} {d : Nat} {K : Fr → World → Prop}
theorem St.setObj (h : St w0 T L w) {i b : Nat} {o1 : Obj} (hi : nthL L i = some (b, o1)) (o2 : Obj) : St w0 T (setL L i o2) { w with heap := w.heap.setIfInBounds b o2 } := by
 have hb := (h.own _ (nthL_mem hi))
 have hlt := lt_of_heap hb.1
 have hother : ∀ k, k ≠ b → (w.heap.setIfInBounds b o2)[k]? = w.heap[k]? := fun k hk => by
  rw [Array.getElem?_setIfInBounds]; rw [if_neg (fun h => hk h.symm)]
 refine ⟨h.os, h.tape, h.output, by simpa using h.size, fun k hk hT => ?_, fun p hp => ?_, by rw [setL_keys]; exact h.nodup⟩
 ·refine (hother k ?_).trans (h.keep k hk hT)
  rintro rfl
  rcases hb.2 with h1 | h1
  ·simp at h1; omega
  ·exact hT h1
 ·rcases setL_mem hi h.nodup hp with rfl | ⟨hm, hne⟩
  ·refine ⟨?_, hb.2⟩
   show (w.heap.setIfInBounds b o2)[b]? = some o2
   rw [Array.getElem?_setIfInBounds, if_pos rfl]
   simp only at hlt
   rw [if_pos hlt]
  ·exact ⟨(hother p.1 hne).trans (h.own p hm).1, (h.own p hm).2⟩
theorem WL.makeMap {t : TypeId} (hst : St w0 T L w) (ho : o.op = .makeMap t none) (hw : want ol o f = some true) (hd : o.dst = some d) (hn : Nat.blt d n = true)
  (k : ∀ b w', St w0 T ((b, .map #[] 0) :: L) w' → WL P n ol rest K ((d, .map (some b)) :: f) w') : WL P n ol (o :: rest) K f w := by
 refine WL.val (w' := w.alloc (.map #[] 0)) hw hd hn (fun ρ hρ => ?_) (k _ _ (hst.alloc _))
 simp [execOp, ho, Instr.makeMap]
theorem WL.mapPut {L' : Hp} {t kt et : TypeId} {kd : TypeDesc} {x y z : Operand} {b clock : Nat} {es : Array MapEntry} {key v : Value} (hst : St w0 T L w) (i : Nat) (hi : nthL L i = some (b, .map es clock)) (hm : P.underlying t = some (.map kt et)) (hkd : P.underlying kt = some kd)
  (ho : o.op = .insert t x y z) (hw : want ol o f = some true) (hd : o.dst = none) (hx : ev f x = some (.map (some b))) (hy : ev f y = some key) (hz : ev f z = some v) (hL : setLK L i (.map (es.push { key := key, val := v, born := clock }) (clock + 1)) some = some L') (hk : MapKept.IsKey kd key) (hf : Instr.findNow kd key es.toList 0 = some none)
  (k : ∀ w', St w0 T L' w' → WL P n ol rest K f w') : WL P n ol (o :: rest) K f w := by
 have hb := (hst.own _ (nthL_mem hi)).1
 refine WL.unit (w' := { w with heap := w.heap.setIfInBounds b (.map (es.push { key := key, val := v, born := clock }) (clock + 1)) }) hw hd (fun ρ hρ => ?_) (k _ (Option.some.inj (setLK_some hL) ▸ hst.setObj hi _))
 simp [execOp, ho, hρ _ _ hx, hρ _ _ hy, hρ _ _ hz, Instr.mapUpdate, run_underlying hm, MapKept.run_getObj_map hb, MapKept.run_checkKey hkd hk, MapKept.run_findKey hkd hf, MapKept.run_setObj_map _ hb, Result.andThen]
theorem Run.mapGet {t kt et : TypeId} {kd : TypeDesc} {x y : Operand} {b clock : Nat} {es : Array MapEntry} {key v : Value} (hm : P.underlying t = some (.map kt et)) (hkd : P.underlying kt = some kd) (ho : o.op = .lookup t x y false) (hx : ev f x = some (.map (some b))) (hy : ev f y = some key)
  (hb : w.heap[b]? = some (.map es clock)) (hk : MapKept.IsKey kd key) (hf : ∃ j, Instr.findNow kd key es.toList 0 = some (some (j, v))) : Run P o f w (.value v) w := fun ρ hρ => by
 obtain ⟨j, hf⟩ := hf
 simp [execOp, ho, hρ _ _ hx, hρ _ _ hy, Instr.lookup, run_underlying hm, MapKept.run_getObj_map hb, MapKept.run_checkKey hkd hk, MapKept.run_findKey hkd hf, Result.andThen]
theorem St.neq (h : St w0 T L w) {i j : Nat} {p q : Nat × Obj} (hi : nthL L i = some p) (hj : nthL L j = some q) (hij : i ≠ j) : p.1 ≠ q.1 := by
 intro he
 rw [nthL_eq] at hi hj
 have h1 : (L.map (·.1))[i]? = some p.1 := by rw [List.getElem?_map, hi]; rfl
 have h2 : (L.map (·.1))[j]? = some q.1 := by rw [List.getElem?_map, hj]; rfl
 exact hij ((List.getElem?_inj (List.getElem?_eq_some_iff.1 h1).1 h.nodup).1 (h1.trans (he ▸ h2.symm)))
theorem St.untouch {w' : World} (h : St w T L w') (hT : ∀ k, k ∈ T → ∃ q, (k, q) ∈ L) (hL : ∀ p, p ∈ L → w.heap[p.1]? = some p.2) : St w [] [] w' := by
 refine ⟨h.os, h.tape, h.output, h.size, fun k hk _ => ?_, fun _ hp => (by cases hp), List.nodup_nil⟩
 by_cases hm : k ∈ T
 ·obtain ⟨q, hq⟩ := hT k hm
  exact (h.own _ hq).1.trans (hL _ hq).symm
 ·exact h.keep k hk hm
end
theorem k82_ (A_s : Option Addr) (n_s c_s : Nat) (s : List Int) (p : Int → Bool) (cv : Value) (w : World) (f_s : SlF encI w A_s n_s s) (hcl : ∀ w1 : World, St w [] [] w1 → ∀ m : Int, Calls Tryz.prog 241 #[i64 m, cv] w1 fun e w2 => e = .returned (.bool (p m)) ∧ St w1 [] [] w2) (hn : n_s ≤ 1048576) :
    Calls Tryz.prog 226 #[.slice A_s n_s c_s, .func (.func 241) #[] #[cv]] w fun e w' => e = .returned (i64 (findI p s)) ∧ St w [] [] w' := by
 refine enter 19 Tryz.func226 rfl Tryz.ntmps226 rfl rfl ?_
 have hs1 := St.init w
 refine WC.r1 hs1 [] rfl (WC.seq (fun K2 hK2 => WC.r1 hs1 [] rfl (WC.block ?_)))
 refine WC.lS [0, 1, 7] rfl hs1 (fun k_ f w' => ∃ (i : Nat), k_ = n_s - i ∧ (i ≤ n_s) ∧ (∀ j, j < i → p (iat s j) = false) ∧ Sub [(8, .int .i64 i)] f) ((fun (i : Nat) => n_s - i) (0)) ?_ ?_
 ·refine ⟨0, rfl, ?_, ?_, ⟨rfl, trivial⟩⟩
  · exact Nat.zero_le _
  · exact fun j hj => absurd hj (by omega)
 clear hs1
 rintro _ f w ⟨i, rfl, p0, p1, hG⟩ hF hs3
 refine WC.sub _ (hG.app hF) ?_
 clear hG hF
 refine WC.r1 hs3 [] rfl (WC.seq (fun K4 hK4 => ?_))
 refine WC.cond rfl (fun h5 => ?_) (fun h5 => ?_)
 ·have qh5 := h5
  try simp only [decide_eq_true_eq, decide_eq_false_iff_not] at qh5
  refine WC.skip (hK4 _ _ (WC.seq (fun K6 hK6 => WC.block (WC.r1 hs3 [] rfl (WC.sr (WL.r 3 hs3 [] rfl ?_))))))
  refine WL.val rfl rfl rfl (Run.idxN Tryz.runUnderlying23 Tryz.sizeOf3 rfl rfl rfl ?_ ?_ ?_) ?_
  · exact SlF.some_ (SlF.st0 f_s hs3)
  · omega
  · omega
  refine WL.val rfl rfl rfl (Run.load Tryz.isAgg3 rfl rfl (SlF.one1 (SlF.st0 f_s hs3) ?_ rfl)) ?_
  · omega
  refine WL.call rfl rfl rfl (Run.callC Tryz.call241 rfl rfl rfl) (hcl _ hs3 _) ?_
  rintro _ whs7 ⟨rfl, hs7⟩
  replace hs7 := hs3.call0 hs7
  refine ⟨_, rfl, WL.nil (WC.cond rfl (fun h8 => ?_) (fun h8 => ?_))⟩
  ·have qh8 := h8
   try simp only [decide_eq_true_eq, decide_eq_false_iff_not] at qh8
   refine WC.r1 hs7 [] rfl (WC.ret (ibR (tkR (tkR (ibR (tkR ?_))))))
   clear hK6 hK2
   refine rtv rfl rfl hs7 ?_
   rw [findI_some (F := encI) (by rw [f_s.len]; omega) p1 h8]
  have qh8 := h8
  try simp only [decide_eq_true_eq, decide_eq_false_iff_not] at qh8
  refine WC.skip (hK6 _ _ (WC.region (WL.r 2 hs7 [] rfl (WL.nil (tkN ?_)))))
  refine ⟨sbF rfl, hs7, _, ?_, i + 1, rfl, ?_, ?_, ⟨rfl, trivial⟩⟩
  · omega
  · omega
  · intro j hj; rcases Nat.lt_or_ge j i with h_ | h_
    · exact p1 j h_
    · obtain rfl : j = i := by omega
      exact h8
 have qh5 := h5
 try simp only [decide_eq_true_eq, decide_eq_false_iff_not] at qh5
 refine WC.exit (hK2 _ _ (WC.r1 hs3 [] rfl (WC.ret (rtv rfl rfl hs3 ?_))))
 rw [findI_none (F := encI) (fun j hj => p1 j (by rw [f_s.len] at hj; omega))]
theorem k83_ (v_s : Value) (s : List Int) (L_s : Hp) (p : Int → Bool) (cv : Value) (w : World) (o_s : OwnF encI 3 v_s s L_s) (h_s : Hh w L_s) (hcl : ∀ (w1 : World) (Lx : Hp), St w (L_s.map (·.1)) Lx w1 → ∀ m : Int, Calls Tryz.prog 241 #[i64 m, cv] w1 fun e w2 => e = .returned (.bool (p m)) ∧ St w1 [] [] w2) (hn : s.length ≤ 1048576) :
    Calls Tryz.prog 240 #[v_s, .func (.func 241) #[] #[cv]] w fun e w' => ∃ A c n xs L1, e = .returned (.slice A n c) ∧ St w (L_s.map (·.1)) L1 w' ∧ OwnF encI 3 (.slice A n c) xs L1 ∧ xs = s.filter (fun x => !p x) := by
 obtain ⟨A_s, c_s, rfl⟩ := o_s.shape
 refine enter 42 Tryz.func240 rfl Tryz.ntmps240 rfl rfl ?_
 have hs1 := St.lent1 w L_s o_s h_s
 refine WC.r1 hs1 [] rfl (WC.sr (WL.r 2 hs1 [] rfl ?_))
 refine WL.cl Tryz.call226 rfl (k82_ _ _ _ _ _ _ _ (SlF.ofOwn o_s (hs1.ow L_s)) (fun w_ hx_ => hcl _ _ (St.call0 hs1 hx_)) ?_) ?_
 · first | assumption | rfl | omega
 rintro _ whs2 ⟨rfl, hs2⟩
 replace hs2 := hs1.call0 hs2
 refine ⟨_, rfl, WL.r 1 hs2 [] rfl (WL.nil (WC.seq (fun K3 hK3 => WC.r1 hs2 [] rfl ?_)))⟩
 refine WC.cq rfl (fun h4 qh4 => ?_) (fun h4 qh4 => ?_)
 ·have hfi : findI p s = -1 := by have h9 := h4; simpa using h9
  refine WC.r1 hs2 [] rfl (WC.ret (tkR ?_))
  clear hK3
  refine retV1 rfl (resV.tmp rfl) (⟨_, _, _, _, _, rfl, (St.keep1 hs2), o_s, (del_none hfi).symm⟩)
 have hfi : ¬ findI p s = -1 := by have h9 := h4; simpa using h9
 obtain ⟨hf0, hf1⟩ := findI_bnd hfi
 refine WC.skip (hK3 _ _ (WC.seq (fun K5 hK5 => WC.r1 hs2 [] rfl (WC.block ?_))))
 refine WC.lO [1, 4, 12] rfl hs2 (fun k_ f L_ => ∃ (j m : Nat) (zs : List Int), k_ = s.length - j ∧ (j ≤ s.length) ∧ (m < j) ∧ (DelTo p s j m zs) ∧ OwnF encI 3 (.slice A_s (s.length) c_s) (zs) L_ ∧ Sub [(0, .slice A_s (s.length) c_s), (6, .int .i64 j), (5, .int .i64 m)] f) (((fun (j m : Nat) (zs : List Int) => s.length - j) ((findI p s).toNat + 1) ((findI p s).toNat) (s))) ?_ ?_
 ·refine ⟨(findI p s).toNat + 1, (findI p s).toNat, s, rfl, ?_, ?_, ?_, o_s, ⟨rfl, ?_, ?_, trivial⟩⟩
  · omega
  · omega
  · exact delTo_start hfi
  · (refine congrArg some (congrArg (Value.int _) ?_); omega)
  · (refine congrArg some (congrArg (Value.int _) ?_); omega)
 clear hs2
 rintro _ f w L8 ⟨j, m, zs, rfl, p0, p1, p2, ho9, hG⟩ hF hs10
 refine WC.sub _ (hG.app hF) ?_
 clear hG hF
 have hzl := p2.len
 refine WC.seq (fun K11 hK11 => WC.r1 hs10 [] rfl ?_)
 refine WC.cq rfl (fun h12 qh12 => ?_) (fun h12 qh12 => ?_)
 ·refine WC.skip (hK11 _ _ (WC.seq (fun K13 hK13 => WC.block (WC.sr (WL.r 2 hs10 [] rfl ?_)))))
  refine WL.val rfl rfl rfl (Run.idxN Tryz.runUnderlying23 Tryz.sizeOf3 rfl rfl rfl ?_ ?_ ?_) ?_
  · exact SlF.some_ (SlF.ofOwn ho9 (hs10.ow L8))
  · first | omega | (simp only [List.length_set]; omega)
  · first | omega | (simp only [List.length_set]; omega)
  refine WL.val rfl rfl rfl (Run.load Tryz.isAgg3 rfl rfl (SlF.one1 (SlF.ofOwn ho9 (hs10.ow L8)) ?_ rfl)) ?_
  · first | omega | (simp only [List.length_set]; omega)
  refine WL.r 1 hs10 [] rfl (WL.nil (WC.sr (WL.r 2 hs10 [] rfl (WL.call rfl rfl rfl (Run.callC Tryz.call241 rfl rfl rfl) (hcl _ _ hs10 _) ?_))))
  rintro _ whs14 ⟨rfl, hs14⟩
  replace hs14 := hs10.call0 hs14
  refine ⟨_, rfl, WL.r 1 hs14 [] rfl (WL.nil (WC.cq rfl (fun h15 qh15 => ?_) (fun h15 qh15 => ?_)))⟩
  ·refine WC.sr (WL.r 3 hs14 [] rfl (WL.val rfl rfl rfl (Run.idxN Tryz.runUnderlying23 Tryz.sizeOf3 rfl rfl rfl ?_ ?_ ?_) ?_))
   · exact SlF.some_ (SlF.ofOwn ho9 (hs14.ow L8))
   · first | omega | (simp only [List.length_set]; omega)
   · first | omega | (simp only [List.length_set]; omega)
   refine WL.storeF1 (x' := _) hs14 ho9 Tryz.sizeOf3 rfl rfl rfl rfl rfl rfl rfl rfl rfl ?_ rfl (fun L16 whs17 hs17 ho18 _ => ?_)
   · first | omega | (simp only [List.length_set]; omega)
   refine WL.nil (WC.region (WL.r 3 hs17 [] rfl (WL.nil (hK13 _ _ (WC.region (WL.r 3 hs17 [] rfl (WL.nil ?_)))))))
   refine tkN (⟨sbF rfl, _, hs17, _, ?_, j + 1, (m + 1), _, rfl, ?_, ?_, ?_, ho18, ⟨rfl, ?_, ?_, trivial⟩⟩)
   · omega
   · omega
   · omega
   · first | exact p2.keep (by omega) (by omega) (by have h9 := h15; simpa using h9) | exact p2.skip (by omega) (by have h9 := h15; simpa using h9)
   · (refine congrArg some (congrArg (Value.int _) ?_); omega)
   · (refine congrArg some (congrArg (Value.int _) ?_); omega)
  refine WC.skip (hK13 _ _ (WC.region (WL.r 3 hs14 [] rfl (WL.nil (tkN ?_)))))
  refine ⟨sbF rfl, _, hs14, _, ?_, j + 1, m, _, rfl, ?_, ?_, ?_, ho9, ⟨rfl, ?_, ?_, trivial⟩⟩
  · omega
  · omega
  · omega
  · first | exact p2.keep (by omega) (by omega) (by have h9 := h15; simpa using h9) | exact p2.skip (by omega) (by have h9 := h15; simpa using h9)
  · (refine congrArg some (congrArg (Value.int _) ?_); omega)
  · (refine congrArg some (congrArg (Value.int _) ?_); omega)
 refine WC.exit (hK5 _ _ (WC.sr (WL.r 2 hs10 [] rfl ?_)))
 have hc_ := OwnF.cap ho9
 refine WL.val rfl rfl rfl (Run.sliceL (m) Tryz.runUnderlying23 Tryz.sizeOf3 rfl rfl rfl ?_ ?_) ?_
 · first | rfl | (omega)
 · refine ⟨?_, ?_, ?_⟩ <;> (omega)
 have hmt : (zs.take m).length = m := by rw [List.length_take]; omega
 have hcz := OwnF.cap ho9
 refine WL.clearT (m := m) (q := s.length - m) hs10 (OwnF.take (k := m) ho9 (by omega)) Tryz.underlying23 Tryz.zeroValue3 rfl rfl rfl rfl rfl ?_ (fun L19 whs20 hs20 ho21 => ?_)
 · omega
 refine WL.nil (WC.sr (WL.r 2 hs20 [] rfl (WL.val rfl rfl rfl (Run.sliceH0 m Tryz.runUnderlying23 Tryz.sizeOf3 rfl rfl rfl ?_ ?_) ?_)))
 · omega
 · omega
 refine WL.r 1 hs20 [] rfl (WL.nil (WC.ret (retV1 rfl (resV.tmp rfl) (⟨_, _, _, _, _, rfl, (St.keep1 hs20), ho21, p2.all (by omega)⟩))))
theorem k84_ (A_b : Option Addr) (n_b c_b : Nat) (b : List UInt8) (w : World) (f_b : SlF encB w A_b n_b b) (hc : n_b ≤ c_b) (hn : n_b ≤ 549755813888) :
    Calls Tryz.prog 254 #[.slice A_b n_b c_b, i64 0] w fun e w' => e = .returned (.tuple #[.int .i64 (rvN (runeL b)), .int .i64 (rvS (runeL b) : Nat)]) ∧ St w [] [] w' := by
 have hbl := f_b.len
 have hb0 := (gat encB b 0).toNat_lt
 have hb0' : (gat encB b (Int.toNat 0)).toNat < 2 ^ 8 := hb0
 refine enter 76 Tryz.func254 rfl Tryz.ntmps254 rfl rfl ?_
 have hs1 := St.init w
 refine WC.r1 hs1 [] rfl (WC.seq (fun K2 hK2 => WC.sr (WL.r 3 hs1 [] rfl (WL.pO tbk 4 Acts.nil hs1 [] rfl rfl rfl rfl (fun g_ => trivial) (WL.nil ?_)))))
 refine WC.cq rfl (fun h3 qh3 => ?_) (fun h3 qh3 => ?_)
 ·refine WC.r1 hs1 [] rfl (WC.ret (tkR ?_))
  clear hK2
  refine retV2 rfl (resV.tmp rfl) (resV.tmp rfl) (⟨congrArg Ending.returned ?_, hs1.nil⟩)
  have h0 : b = [] := List.eq_nil_of_length_eq_zero (by simp at qh3; omega)
  subst h0
  rw [runeL_nil]; rfl
 refine WC.skip (hK2 _ _ (WC.seq (fun K4 hK4 => WC.r1 hs1 [] rfl (WC.block ?_))))
 refine WC.lS [0, 1, 17] rfl hs1 (fun k_ f w' => ∃ (s : Nat), k_ = 4 - s ∧ (1 ≤ s) ∧ (s ≤ 4) ∧ (∀ t, 1 ≤ t → t < s → rtry b t = false) ∧ Sub [(6, .int .i64 s)] f) ((fun (s : Nat) => 4 - s) (1)) ?_ ?_
 ·refine ⟨1, rfl, ?_, ?_, ?_, ⟨rfl, trivial⟩⟩
  · omega
  · omega
  · intro t h1 h2; omega
 clear hs1
 rintro _ f w ⟨s, rfl, p0, p1, p2, hG⟩ hF hs5
 refine WC.sub _ (hG.app hF) ?_
 clear hG hF
 have ht4 := t4_bnd s
 refine WC.seq (fun K6 hK6 => WC.sr (WL.r 3 hs5 [] rfl ?_))
 refine WL.pA tbk 6 Acts.nil hs5 [] rfl rfl rfl rfl (fun g_ => by (try simp only [bf, within_iff, within_not] at g_); exact ⟨by omega, trivial⟩) (WL.nil (WC.cq rfl (fun h7 qh7 => ?_) (fun h7 qh7 => ?_)))
 ·refine WC.skip (hK6 _ _ (WC.seq (fun K8 hK8 => WC.block (WC.seq (fun K9 hK9 => WC.rH hs5 hs5 (fun _ hs10 => ?_))))))
  refine WH.rn [0, 1] hs10 [] rfl rfl ?_
  refine WH.take 2 rfl (by kernel_rfl) rfl rfl rfl hs10 (fun w_ hs_ => (Run.idx Tryz.runUnderlying22 Tryz.sizeOf5 rfl rfl rfl ?_ ?_ ?_)) ?_
  · exact SlF.some_ (SlF.st0 f_b (hs_ : St _ _ _ _))
  · first | omega | (simp; omega)
  · first | omega | (simp; omega)
  refine WH.take 3 rfl (by kernel_rfl) rfl rfl rfl hs10 (fun w_ hs_ => (Run.load Tryz.isAgg5 rfl rfl (SlF.one1 (SlF.st0 f_b (hs_ : St _ _ _ _)) ?_ rfl))) ?_
  · first | omega | (simp; omega)
  refine WH.rn [4, 6] hs10 [] rfl rfl (WH.o1 5 rfl (WL.buildF (F := encI) hs10 ([0, 0, 192, 224]) Tryz.runUnderlying23 Tryz.sizeOf3 Tryz.zeroValue3 rfl rfl rfl rfl rfl rfl rfl rfl rfl rfl rfl rfl (fun A14 c15 L11 whs12 hs12 ho13 => WL.nil ⟨(hs12.rm L11), ?_⟩)))
  refine WH.strS hs12 (fun w_ h_ => (h_.rm L11)) ?_
  refine WH.take 7 rfl (by kernel_rfl) rfl rfl rfl hs12 (fun w_ hs_ => (Run.idxN Tryz.runUnderlying23 Tryz.sizeOf3 rfl rfl rfl ?_ ?_ ?_)) ?_
  · exact SlF.some_ (SlF.ofOwn ho13 ((hs_ : St _ _ _ _).ow L11))
  · first | omega | (simp; omega)
  · first | omega | (simp; omega)
  refine WH.take 8 rfl (by kernel_rfl) rfl rfl rfl hs12 (fun w_ hs_ => (Run.load Tryz.isAgg3 rfl rfl (SlF.one1 (SlF.ofOwn ho13 ((hs_ : St _ _ _ _).ow L11)) ?_ rfl))) ?_
  · first | omega | (simp; omega)
  refine WH.rn [9, 10] hs12 [] rfl rfl (WH.dn (hK9 _ _ (WC.seq (fun K16 hK16 => WC.r1 hs12 [] rfl (WC.block ?_)))))
  refine WC.lS [0, 1, 6, 17, 18, 19, 20, 27, 30, 31, 32, 33, 34, 35, 36, 37, 38, 39] rfl hs12 (fun k_ f w' => ∃ (i : Nat), k_ = s - i ∧ (1 ≤ i) ∧ (i ≤ s) ∧ Sub [(8, .int .i64 i), (7, .int .i64 (candI b s (i - 1)))] f) ((fun (i : Nat) => s - i) (1)) ?_ ?_
  ·refine ⟨1, rfl, ?_, ?_, ⟨rfl, ?_, trivial⟩⟩
   · omega
   · omega
   · rfl
  clear hs12
  rintro _ f w ⟨i, rfl, p0, p1, hG⟩ hF hs17
  refine WC.sub _ (hG.app hF) ?_
  clear hG hF
  have hcb := candI_bnd (l := b) (s := s) (i := i - 1) (by omega)
  have hbi := (gat encB b i).toNat_lt
  have hbz : (gat encB b ((0 : Int) + (i : Int)).toNat).toNat < 2 ^ 8 := (gat encB b _).toNat_lt
  refine WC.seq (fun K18 hK18 => WC.r1 hs17 [] rfl ?_)
  refine WC.cD rfl (fun qh19 => ?_) (fun qh19 => ?_)
  ·refine WC.skip (hK18 _ _ (WC.seq (fun K20 hK20 => WC.block (WC.region (WL.r 6 hs17 [] rfl ?_)))))
   refine WL.val rfl rfl rfl (Run.idx Tryz.runUnderlying22 Tryz.sizeOf5 rfl rfl rfl ?_ ?_ ?_) ?_
   · exact SlF.some_ (SlF.st0 f_b hs17)
   · first | omega | (simp; omega)
   · first | omega | (simp; omega)
   refine WL.val rfl rfl rfl (Run.load Tryz.isAgg5 rfl rfl (SlF.one1 (SlF.st0 f_b hs17) ?_ rfl)) ?_
   · first | omega | (simp; omega)
   refine WL.r 4 hs17 [] rfl (WL.nil (hK20 _ _ (WC.region (WL.r 3 hs17 [] rfl (WL.nil (tkN ?_))))))
   refine ⟨sbF rfl, hs17, _, ?_, i + 1, rfl, ?_, ?_, ⟨rfl, ?_, trivial⟩⟩
   · omega
   · omega
   · omega
   · refine congrArg some (congrArg (Value.int _) ?_); have h9 := candI_next (l := b) (s := s) (i := i) (by omega); rw [h9]; simp
  refine WC.exit (hK16 _ _ (WC.sr (WL.r 1 hs17 [] rfl (WL.cl Tryz.call168 rfl (k13_ _ _) ?_))))
  rintro _ whs21 ⟨A22, c23, L1_24, rfl, hs21, ho25⟩
  replace hs21 := hs17.callF hs21
  refine ⟨_, rfl, WL.r 1 hs21 [] rfl (WL.nil (WC.sq1 hs21 (WQ.r 5 [] rfl ?_)))⟩
  apply WQ.gA 10 Acts.nil rfl
  ·intro g26 J27
   have qg26 := g26
   try simp only [bf, within_iff, within_not] at qg26
   refine WQ.runA tbk 1 (Acts.nil.cons (j := 4) rfl g26) [] rfl trivial ?_
   refine WQ.val (wantT rfl g26) rfl rfl (fun w_ hs_ => (Run.strOf (SlF.ofOwn ho25 ((hs_ : St _ _ _ _).ow L1_24)) Tryz.underlying22 Tryz.underlying5 Tryz.underlying9 rfl rfl)) ?_
   refine WQ.runA tbk 5 (Acts.nil.cons (j := 4) rfl g26) [] rfl ⟨by omega, trivial⟩ ?_
   refine WQ.val (wantT rfl g26) rfl rfl (fun w_ hs_ => (Run.sliceLH (0) (s) Tryz.runUnderlying22 Tryz.sizeOf5 rfl rfl rfl rfl ?_ ?_ ?_)) ?_
   · first | rfl | (omega)
   · first | rfl | (omega)
   · refine ⟨?_, ?_, ?_⟩ <;> (omega)
   refine WQ.val (wantT rfl g26) rfl rfl (fun w_ hs_ => (Run.strOf (SlF.cutC (lo := 0) (hi := s) (SlF.st0 f_b (hs_ : St _ _ _ _)) (by refine ⟨?_, ?_, ?_⟩ <;> (omega))) Tryz.underlying22 Tryz.underlying5 Tryz.underlying9 rfl rfl)) ?_
   refine WQ.runA tbk 1 (Acts.nil.cons (j := 4) rfl g26) [] rfl trivial (WQ.eA 10 Acts.nil J27 g26 rfl rfl)
  refine WQ.nil (fun _ (hs28 : St _ _ _ _) => ?_)
  refine WC.cq rfl (fun h29 qh29 => ?_) (fun h29 qh29 => ?_)
  ·refine WC.r1 hs28 [] rfl (WC.ret (ibR (tkR (tkR (ibR (tkR ?_))))))
   clear hK8 hK4
   refine retV2 rfl (resV.tmp rfl) (resV.tmp rfl) (⟨congrArg Ending.returned ?_, hs28.nil⟩)
   obtain rfl : i = s := by omega
   have hok : rtry b i = true := by rw [← rtry_iff (by omega), ← candI_cand (by omega) (by omega) (by omega)]; simpa [Int.ofNat_inj] using qh29
   rw [runeL_at hok p0 (by omega) p2, ← candI_cand (by omega) (by omega) (by omega)]; rfl
  refine WC.skip (hK8 _ _ (WC.region (WL.r 3 hs28 [] rfl (WL.nil (tkN ?_)))))
  refine ⟨sbF rfl, (hs28.drop (by repeat (first | exact List.Sublist.refl _ | exact List.sublist_append_left _ _ | exact List.Sublist.trans (List.sublist_append_left _ _) (List.sublist_append_left _ _) | apply List.Sublist.cons | refine List.Sublist.trans ?_ (sR _)))), _, ?_, s + 1, rfl, ?_, ?_, ?_, ⟨rfl, trivial⟩⟩
  · omega
  · omega
  · omega
  · intro t h1 h2; rcases Nat.lt_or_ge t s with h3 | h3
    · exact p2 t h1 h3
    obtain rfl : t = s := by omega
    obtain rfl : i = t := by omega
    rw [← rtry_iff (by omega), ← candI_cand (by omega) (by omega) (by omega)]; simpa [Int.ofNat_inj] using qh29
 refine WC.exit (hK4 _ _ (WC.r1 hs5 [] rfl (WC.ret (retV2 rfl (resV.tmp rfl) (resV.tmp rfl) (⟨congrArg Ending.returned ?_, hs5.nil⟩)))))
 have hno : runeL b = none := runeL_none (fun t h1 h3 => by
     rcases Nat.lt_or_ge t s with h4 | h4
     · exact p2 t h1 h4
     · exact rtry_len (by simp at qh7; omega))
 rw [hno]; rfl
end Go.Proofs.YtjmegoiclgancaaGreat
