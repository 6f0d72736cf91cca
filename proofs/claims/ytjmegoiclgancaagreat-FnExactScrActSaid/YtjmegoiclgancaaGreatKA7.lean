/-
  The statement: for every input the law returns true. No condition. (And what it stands on, the last part.)
-/
import Derived.Test.YtjmegoiclgancaaGreatKA6
namespace Go.Proofs.YtjmegoiclgancaaGreat
open Go Go.RowKit
set_option linter.unusedVariables false
set_option linter.unusedSimpArgs false
theorem c_spec_ScrRune (s : ScrR) (q : Int) (w : World) (f_s : okScrR 549755813888 w s) (hsm : smScr 1048576 s.dat) :
    Calls Tryz.prog 114 #[.agg (cScr s).toArray, i64 q] w fun e w' => ∃ r L1, e = .returned (.agg (cScr r).toArray) ∧ St w [] L1 w' ∧ ownScrR r L1 ∧ r.dat = scrRuneRes s.dat q := by
 have nb_s_Main_Cells := f_s.Main.Cells_n
 have nl_s_Main_Cells := f_s.Main.Cells.len
 have nb_s_Alt_Cells := f_s.Alt.Cells_n
 have nl_s_Alt_Cells := f_s.Alt.Cells.len
 have nb_s_Tabs := f_s.Tabs_n
 have nl_s_Tabs := f_s.Tabs.len
 have nb_s_Back := f_s.Back_n
 have nl_s_Back := f_s.Back.sl.len
 have hsmB : smScr 549755813888 s.dat := by first | assumption | exact smScr_mono hsm (by decide)
 refine enter 49 Tryz.func114 rfl Tryz.ntmps114 rfl rfl ?_
 have hs1 := St.init w
 refine WC.sr ?_
 refine WL.bx hs1 rfl (fun b2 _ hs3 => ?_)
 refine WL.al hs3 Tryz.zeroValue33 rfl rfl (fun b4 _ hs5 => ?_)
 refine WL.nil ?_
 refine WC.seq (fun K6 hK6 => ?_)
 refine WC.sr ?_
 refine WL.r 1 hs5 [1] rfl ?_
 refine WL.cl Tryz.call63 rfl (c_spec_ScrOk s _ (okScrR.st0 f_s hs5)) ?_
 rintro _ whs7 ⟨rfl, hs7⟩
 replace hs7 := hs5.call0 hs7
 refine ⟨_, rfl, ?_⟩
 refine WL.r 1 hs7 [] rfl ?_
 refine WL.nil ?_
 refine WC.cq rfl (fun h8 qh8 => ?_) (fun h8 qh8 => ?_)
 ·have hk : scrOk s.dat = false := by have h9 := h8; simpa using h9
  refine WC.sr ?_
  refine WL.val rfl rfl rfl (Run.build rfl rfl rfl rfl (built_33)) ?_
  refine WL.st tbk hs7 0 rfl rfl (fun _ hs9 => ?_)
  refine WL.nil ?_
  refine WC.ret ?_
  refine tkR ?_
  clear hK6
  refine retV1 rfl (resV.cellA tbk hs9 0 rfl rfl rfl rfl) ?_
  obtain ⟨L15, hs14, ho16⟩ := ownScrR.fl ((((hs9.fr ([] : Hp)).fr ([] : Hp)).fr ([] : Hp)).fr ([] : Hp)) (OwnF.nil _ _) (OwnF.nil _ _) (OwnF.nil _ _) (OwnN.nil _ _ _)
  have hs17 := ((hs14.fb b2).fb b4)
  refine ⟨⟨0, 0, ⟨0, 0, ⟨none, 0, 0, []⟩⟩, ⟨0, 0, ⟨none, 0, 0, []⟩⟩, false, 0, 0, false, ⟨0, 0, false, false, false⟩, 0, 0, false, false, 0, 0, ⟨0, 0, false, false, false⟩, ⟨none, 0, 0, []⟩, 0, ⟨none, 0, 0, []⟩⟩, _, rfl, (St.keep1 (hs17.fr L15)), ?_, ?_⟩
  · exact (by exact ho16)
  · unfold scrRuneRes; rw [hk]; rfl
 ·have hk : scrOk s.dat = true := by have h9 := h8; simpa using h9
  have hf := ScrFine.of hk
  refine WC.skip ?_
  refine hK6 _ _ ?_
  refine WC.sr ?_
  refine WL.r 1 hs7 [1] rfl ?_
  refine WL.cl Tryz.call64 rfl (c_spec_l09Copy s _ (okScrR.st0 f_s hs7) ?_) ?_
  · first | (first | assumption | rfl | omega) | (first | assumption | omega | (constructor <;> omega))
  rintro _ whs18 ⟨r19, L1_20, rfl, hs18, ho21, hd22⟩
  replace hs18 := hs7.callF hs18
  refine ⟨_, rfl, ?_⟩
  replace hs18 := St.back [_, _] hs18
  have hcp := hd22
  have hfc : ScrFine (ScrR.dat _) := hcp.symm ▸ hf
  have hsmc : smScr 549755813888 (ScrR.dat _) := hcp.symm ▸ hsmB
  refine WL.al hs18 Tryz.zeroValue33 rfl rfl (fun b23 _ hs24 => ?_)
  refine WL.st tbk hs24 0 rfl rfl (fun _ hs25 => ?_)
  refine WL.nil ?_
  refine WC.seq (fun K26 hK26 => ?_)
  refine WC.sr ?_
  refine WL.r 1 hs25 [] rfl ?_
  refine WL.cl Tryz.call199 rfl (c_spec_Shows _ _) ?_
  rintro _ whs27 ⟨rfl, hs27⟩
  replace hs27 := hs25.call0 hs27
  refine ⟨_, rfl, ?_⟩
  refine WL.r 1 hs27 [] rfl ?_
  refine WL.nil ?_
  refine WC.cq rfl (fun h28 qh28 => ?_) (fun h28 qh28 => ?_)
  ·have hsh : shows q = false := by have h9 := h28; simpa using h9
   refine WC.sr ?_
   refine WL.r 1 hs27 [0] rfl ?_
   refine WL.st tbk hs27 1 rfl rfl (fun _ hs29 => ?_)
   refine WL.nil ?_
   refine WC.ret ?_
   refine tkR ?_
   clear hK26
   refine retV1 rfl (resV.cellA tbk hs29 1 rfl rfl rfl rfl) ?_
   refine ⟨r19, _, rfl, (St.keep1 (hs29.fr L1_20)), ?_, ?_⟩
   · exact ho21
   · unfold scrRuneRes; rw [if_pos hk, hsh]; exact hcp
  ·have hsh : shows q = true := by have h9 := h28; simpa using h9
   refine WC.skip ?_
   refine hK26 _ _ ?_
   refine WC.seq (fun K30 hK30 => ?_)
   refine WC.r1 hs27 [0] rfl ?_
   refine WC.jPK [0, 1, 2, 4, 5, 6, 7, 8, 10, 11, 12, 13, 14, 16, 17] rfl ((hs27.fr L1_20).fb b23) (fun o_ L_ => ∃ r : ScrR, o_ = Obj.cells (List.toArray (cScr r)) 33 (0, 0) ∧ ownScrR r L_ ∧ r.dat = (if s.Wrap = true then { downD s.dat with X := 0 } else s.dat)) ?_ ?_
   ·refine WC.cq rfl (fun h31 qh31 => ?_) (fun h31 qh31 => ?_)
    ·have hwr : s.Wrap = true := (congrArg ScrD.Wrap hcp).symm.trans h31
     refine WC.sr ?_
     refine WL.r 1 hs27 [0] rfl ?_
     refine WL.cl Tryz.call142 rfl (c_spec_l09Down r19 _ _ ho21 (hs27.ow L1_20) (St.nodupL (hs27.fr L1_20)) ?_ ?_) ?_
     · first | (first | assumption | rfl | omega) | (first | assumption | omega | (constructor <;> omega))
     · first | (first | assumption | rfl | omega) | (first | assumption | omega | (constructor <;> omega))
     rintro _ whs32 ⟨r33, L1_34, rfl, hs32, ho35, hd36⟩
     replace hs32 := St.lend (hs27.fr L1_20) hs32
     refine ⟨_, rfl, ?_⟩
     replace hs32 := St.back [_, _, _] hs32
     refine WL.st tbk hs32 0 rfl rfl (fun _ hs37 => ?_)
     refine WL.nil ?_
     refine WC.region ?_
     refine WL.r 1 hs37 [] rfl ?_
     refine WL.st tbk hs37 0 rfl rfl (fun _ hs38 => ?_)
     refine WL.nil ?_
     obtain ⟨L39, L40, L41, L42, hs47, ho43, ho44, ho45, ho46⟩ := ownScrR.open_ (hs38.fr L1_34) ho35
     have hs48 := (((hs47.fb b2).fb b4).fb b23)
     obtain ⟨L50, hs49, ho51⟩ := ownScrR.fl ((((hs48.fr L42).fr L41).fr L40).fr L39) ho43 ho44 ho45 ho46
     have hs52 := (((hs49.fb b2).fb b4).fb b23)
     refine tkN ⟨_, _, ((((hs52.fb b2).fb b4).fr L50).fb b23), ⟨⟨r33.W, r33.H, ⟨r33.Main.W, r33.Main.H, SlD.of ho43⟩, ⟨r33.Alt.W, r33.Alt.H, SlD.of ho44⟩, r33.OnAlt, (0), r33.Y, r33.Wrap, ⟨r33.A.Fg, r33.A.Bg, r33.A.Bold, r33.A.Under, r33.A.Turn⟩, r33.Top, r33.Bot, r33.NoWrap, r33.Hide, r33.SaveX, r33.SaveY, ⟨r33.SaveA.Fg, r33.SaveA.Bg, r33.SaveA.Bold, r33.SaveA.Under, r33.SaveA.Turn⟩, SlD.of ho45, r33.Limit, SlD.ofN ho46⟩, rfl, (by exact ho51), ?_⟩, sbF rfl⟩
     · rw [if_pos hwr, ← hcp]; show _ = ({ downD (ScrR.dat _) with X := 0 } : ScrD); rw [← hd36]; rfl
    ·have hwr : ¬ s.Wrap = true := by have h9 : s.Wrap = false := (congrArg ScrD.Wrap hcp).symm.trans h31; rw [h9]; decide
     refine WC.skip ?_
     refine tkN ⟨_, _, ((((hs27.fb b2).fb b4).fr L1_20).fb b23), ⟨r19, rfl, ho21, ?_⟩, sbF rfl⟩
     · rw [if_neg hwr]; exact hcp
   ·rintro _ L53 _ ⟨r54, rfl, ho55, hd56⟩ hs57 f_ hf_
    refine hK30 _ _ (WC.sub _ hf_ ?_)
    clear hf_
    have hs58 := (((hs57.fb b2).fb b4).fb b23)
    have hfr : ScrFine r54.dat := by rw [hd56]; split; exact hf.down.x0 rfl; exact hf
    have hsmr : smScr 549755813888 r54.dat := fine_smB hfr (by decide)
    have hwh2 : (1 ≤ r54.W ∧ r54.W ≤ 120) ∧ (1 ≤ r54.H ∧ r54.H ≤ 120) ∧ 1 ≤ r54.W * r54.H ∧ r54.W * r54.H ≤ 4000 := isSize_bnd hfr.size
    have hxy2 : (0 ≤ r54.X ∧ r54.X < r54.W) ∧ 0 ≤ r54.Y ∧ r54.Y < r54.H := hfr.pos
    have hgs2 : gridOk (shownD r54.dat) = true := hfr.shown.1
    have hsh2 : (shownD r54.dat).W = r54.W ∧ (shownD r54.dat).H = r54.H := hfr.shown.2
    have hgl2 := grid_len hgs2
    have hvm : 0 ≤ r54.Y * r54.W := Int.mul_nonneg (by omega) (by omega)
    have hvn : (r54.Y + 1) * r54.W = r54.Y * r54.W + r54.W := by rw [Int.add_mul, Int.one_mul]
    have hvo : (r54.Y + 1) * r54.W ≤ r54.H * r54.W := Int.mul_le_mul_of_nonneg_right (by omega) (by omega)
    rw [Int.mul_comm r54.H r54.W] at hvo
    have hgq : gridOk (shownR r54).dat = true := by rw [shownR_dat]; exact hgs2
    have hco : cellOk (⟨q, r54.A⟩ : CellD) = true := by unfold cellOk; rw [hsh]; exact hfr.aA
    refine WC.seq (fun K59 hK59 => ?_)
    refine WC.rG 13 (hs58.d1.rm L53) (hs58.rm L53) hs58 (fun _ hs60 => ?_)
    refine WG.rn [0, 1, 3, 4, 5, 6, 7, 8, 9] (hs60.rm L53) [0, 0, 0, 0, 0] rfl rfl ?_
    refine WG.tk 10 rfl (by kernel_rfl) rfl rfl rfl (hs60.rm L53) (fun w_ hs_ => (Run.build rfl rfl rfl rfl (built_75_0_1 _ _ _ _ _ _))) ?_
    refine WG.o1 2 rfl rfl ?_
    refine WL.cl Tryz.call145 rfl (c_spec_l09Shown r54 _ (ownScrR.ok (B := 549755813888) ho55 (hs60.ow L53) hsmr)) ?_
    rintro _ whs61 ⟨rfl, hs61⟩
    replace hs61 := hs60.call0 hs61
    refine ⟨_, rfl, ?_⟩
    refine WL.nil ⟨(hs61.rm L53), ?_⟩
    refine WG.o1 11 rfl rfl ?_
    refine WL.cl Tryz.call179 rfl (c_spec_GridFill (shownR r54) _ _ _ _ _ _ _ _ _ _ _ (okScrR.shown (ownScrR.ok (B := 549755813888) ho55 (hs61.ow L53) hsmr)) ?_ ?_ ?_ ?_ ?_ ?_) ?_
    · first | (first | assumption | rfl | omega) | (first | assumption | omega | (constructor <;> omega))
    · first | (first | assumption | rfl | omega) | (first | assumption | omega | (constructor <;> omega))
    · first | (first | assumption | rfl | omega) | (first | assumption | omega | (constructor <;> omega))
    · first | (first | assumption | rfl | omega) | (first | assumption | omega | (constructor <;> omega))
    · first | (first | assumption | rfl | omega) | (first | assumption | omega | (constructor <;> omega))
    · first | (first | assumption | rfl | omega) | (first | assumption | omega | (constructor <;> omega))
    rintro _ whs62 ⟨r63, L1_64, rfl, hs62, ho65, hd66⟩
    replace hs62 := hs61.callF hs62
    refine ⟨_, rfl, ?_⟩
    replace hs62 := St.back [_, _, _] hs62
    have hg9 := hd66
    refine WL.nil ⟨((hs62.rm L1_64).rm L53), ?_⟩
    refine WG.o1 12 rfl rfl ?_
    refine WL.cl Tryz.call143 rfl (c_spec_l09Put r54 _ r63 _ _ ho55 (hs62.ow L53) ho65 (hs62.ow L1_64) (St.nodupL (St.grp2 (L1 := L53) (L2 := L1_64) [] ((hs62.fr L1_64).fr L53)))) ?_
    rintro _ whs67 ⟨r68, L1_69, rfl, hs67, ho70, hd71⟩
    replace hs67 := St.lend (St.grp2 (L1 := L53) (L2 := L1_64) [] ((hs62.fr L1_64).fr L53)) hs67
    refine ⟨_, rfl, ?_⟩
    replace hs67 := St.back [_, _, _] hs67
    have hpt := hd71
    have hX3 : r68.X = r54.X := (congrArg ScrD.X hpt).trans putD_eqs.1
    have hW3 : r68.W = r54.W := (congrArg ScrD.W hpt).trans putD_eqs.2.1
    have hN3 : r68.NoWrap = r54.NoWrap := (congrArg ScrD.NoWrap hpt).trans putD_eqs.2.2.1
    refine WL.nil ⟨(hs67.rm L1_69), ?_⟩
    refine WG.oK rfl ?_
    refine WL.st tbk hs67 0 rfl rfl (fun _ hs72 => ?_)
    refine WL.nil ⟨(hs72.d1.rm L1_69), ?_⟩
    refine WH.dn ?_
    refine hK59 _ _ ?_
    refine WC.seq (fun K73 hK73 => ?_)
    refine WC.r1 hs72 [0, 0] rfl ?_
    refine WC.cq rfl (fun h74 qh74 => ?_) (fun h74 qh74 => ?_)
    ·have hlt : r54.dat.X = r54.dat.W - 1 := by show r54.X = r54.W - 1; have h9 := h74; simp at h9; omega
     refine WC.region ?_
     refine WL.r 4 hs72 [0] rfl ?_
     refine WL.st tbk hs72 0 rfl rfl (fun _ hs75 => ?_)
     refine WL.nil ?_
     refine hK73 _ _ ?_
     refine WC.sr ?_
     refine WL.r 1 hs75 [0] rfl ?_
     refine WL.st tbk hs75 1 rfl rfl (fun _ hs76 => ?_)
     refine WL.nil ?_
     refine WC.ret ?_
     refine retV1 rfl (resV.cellA tbk hs76 1 rfl rfl rfl rfl) ?_
     obtain ⟨L77, L78, L79, L80, hs85, ho81, ho82, ho83, ho84⟩ := ownScrR.open_ (hs76.fr L1_69) ho70
     have hs86 := (((hs85.fb b2).fb b4).fb b23)
     obtain ⟨L88, hs87, ho89⟩ := ownScrR.fl ((((hs86.fr L80).fr L79).fr L78).fr L77) ho81 ho82 ho83 ho84
     have hs90 := (((hs87.fb b2).fb b4).fb b23)
     refine ⟨⟨r68.W, r68.H, ⟨r68.Main.W, r68.Main.H, SlD.of ho81⟩, ⟨r68.Alt.W, r68.Alt.H, SlD.of ho82⟩, r68.OnAlt, r68.X, r68.Y, (!r68.NoWrap), ⟨r68.A.Fg, r68.A.Bg, r68.A.Bold, r68.A.Under, r68.A.Turn⟩, r68.Top, r68.Bot, r68.NoWrap, r68.Hide, r68.SaveX, r68.SaveY, ⟨r68.SaveA.Fg, r68.SaveA.Bg, r68.SaveA.Bold, r68.SaveA.Under, r68.SaveA.Turn⟩, SlD.of ho83, r68.Limit, SlD.ofN ho84⟩, _, rfl, (St.keep1 (hs90.fr L88)), ?_, ?_⟩
     · exact (by exact ho89)
     · first | (unfold scrRuneRes; rw [if_pos hk, if_pos hsh, runeD_lt hd56 hlt]; show _ = ({ putD r54.dat (gFill (shownD r54.dat) r54.X r54.Y 1 1 (⟨q, r54.A⟩ : CellD)) with X := r54.X + 1 } : ScrD); rw [← shownR_dat, ← hg9, ← hpt, ← hX3]; rfl) | (unfold scrRuneRes; rw [if_pos hk, if_pos hsh, runeD_eq hd56 hlt]; show _ = wrapD (putD r54.dat (gFill (shownD r54.dat) r54.X r54.Y 1 1 (⟨q, r54.A⟩ : CellD))) (!r54.NoWrap); rw [← shownR_dat, ← hg9, ← hpt, ← hN3]; rfl)
    ·have hlt : r54.dat.X ≠ r54.dat.W - 1 := by show r54.X ≠ r54.W - 1; have h9 := h74; simp at h9; omega
     refine WC.region ?_
     refine WL.r 4 hs72 [0] rfl ?_
     refine WL.st tbk hs72 0 rfl rfl (fun _ hs91 => ?_)
     refine WL.nil ?_
     refine hK73 _ _ ?_
     refine WC.sr ?_
     refine WL.r 1 hs91 [0] rfl ?_
     refine WL.st tbk hs91 1 rfl rfl (fun _ hs92 => ?_)
     refine WL.nil ?_
     refine WC.ret ?_
     refine retV1 rfl (resV.cellA tbk hs92 1 rfl rfl rfl rfl) ?_
     obtain ⟨L93, L94, L95, L96, hs101, ho97, ho98, ho99, ho100⟩ := ownScrR.open_ (hs92.fr L1_69) ho70
     have hs102 := (((hs101.fb b2).fb b4).fb b23)
     obtain ⟨L104, hs103, ho105⟩ := ownScrR.fl ((((hs102.fr L96).fr L95).fr L94).fr L93) ho97 ho98 ho99 ho100
     have hs106 := (((hs103.fb b2).fb b4).fb b23)
     refine ⟨⟨r68.W, r68.H, ⟨r68.Main.W, r68.Main.H, SlD.of ho97⟩, ⟨r68.Alt.W, r68.Alt.H, SlD.of ho98⟩, r68.OnAlt, (r68.X + (1)), r68.Y, r68.Wrap, ⟨r68.A.Fg, r68.A.Bg, r68.A.Bold, r68.A.Under, r68.A.Turn⟩, r68.Top, r68.Bot, r68.NoWrap, r68.Hide, r68.SaveX, r68.SaveY, ⟨r68.SaveA.Fg, r68.SaveA.Bg, r68.SaveA.Bold, r68.SaveA.Under, r68.SaveA.Turn⟩, SlD.of ho99, r68.Limit, SlD.ofN ho100⟩, _, rfl, (St.keep1 (hs106.fr L104)), ?_, ?_⟩
     · exact (by exact ho105)
     · first | (unfold scrRuneRes; rw [if_pos hk, if_pos hsh, runeD_lt hd56 hlt]; show _ = ({ putD r54.dat (gFill (shownD r54.dat) r54.X r54.Y 1 1 (⟨q, r54.A⟩ : CellD)) with X := r54.X + 1 } : ScrD); rw [← shownR_dat, ← hg9, ← hpt, ← hX3]; rfl) | (unfold scrRuneRes; rw [if_pos hk, if_pos hsh, runeD_eq hd56 hlt]; show _ = wrapD (putD r54.dat (gFill (shownD r54.dat) r54.X r54.Y 1 1 (⟨q, r54.A⟩ : CellD))) (!r54.NoWrap); rw [← shownR_dat, ← hg9, ← hpt, ← hN3]; rfl)
theorem c_spec_ScrCtl (s : ScrR) (b : Int) (w : World) (f_s : okScrR 549755813888 w s) (hsm : smScr 1048576 s.dat) :
    Calls Tryz.prog 115 #[.agg (cScr s).toArray, i64 b] w fun e w' => ∃ r L1, e = .returned (.agg (cScr r).toArray) ∧ St w [] L1 w' ∧ ownScrR r L1 ∧ r.dat = scrCtlRes s.dat b := by
 have nb_s_Main_Cells := f_s.Main.Cells_n
 have nl_s_Main_Cells := f_s.Main.Cells.len
 have nb_s_Alt_Cells := f_s.Alt.Cells_n
 have nl_s_Alt_Cells := f_s.Alt.Cells.len
 have nb_s_Tabs := f_s.Tabs_n
 have nl_s_Tabs := f_s.Tabs.len
 have nb_s_Back := f_s.Back_n
 have nl_s_Back := f_s.Back.sl.len
 have hsmB : smScr 549755813888 s.dat := by first | assumption | exact smScr_mono hsm (by decide)
 refine enter 68 Tryz.func115 rfl Tryz.ntmps115 rfl rfl ?_
 have hs1 := St.init w
 refine WC.sr ?_
 refine WL.bx hs1 rfl (fun b2 _ hs3 => ?_)
 refine WL.al hs3 Tryz.zeroValue33 rfl rfl (fun b4 _ hs5 => ?_)
 refine WL.nil ?_
 refine WC.seq (fun K6 hK6 => ?_)
 refine WC.sr ?_
 refine WL.r 1 hs5 [1] rfl ?_
 refine WL.cl Tryz.call63 rfl (c_spec_ScrOk s _ (okScrR.st0 f_s hs5)) ?_
 rintro _ whs7 ⟨rfl, hs7⟩
 replace hs7 := hs5.call0 hs7
 refine ⟨_, rfl, ?_⟩
 refine WL.r 1 hs7 [] rfl ?_
 refine WL.nil ?_
 refine WC.cq rfl (fun h8 qh8 => ?_) (fun h8 qh8 => ?_)
 ·have hk : scrOk s.dat = false := by have h9 := h8; simpa using h9
  refine WC.sr ?_
  refine WL.val rfl rfl rfl (Run.build rfl rfl rfl rfl (built_33)) ?_
  refine WL.st tbk hs7 0 rfl rfl (fun _ hs9 => ?_)
  refine WL.nil ?_
  refine WC.ret ?_
  refine tkR ?_
  clear hK6
  refine retV1 rfl (resV.cellA tbk hs9 0 rfl rfl rfl rfl) ?_
  obtain ⟨L15, hs14, ho16⟩ := ownScrR.fl ((((hs9.fr ([] : Hp)).fr ([] : Hp)).fr ([] : Hp)).fr ([] : Hp)) (OwnF.nil _ _) (OwnF.nil _ _) (OwnF.nil _ _) (OwnN.nil _ _ _)
  have hs17 := ((hs14.fb b2).fb b4)
  refine ⟨⟨0, 0, ⟨0, 0, ⟨none, 0, 0, []⟩⟩, ⟨0, 0, ⟨none, 0, 0, []⟩⟩, false, 0, 0, false, ⟨0, 0, false, false, false⟩, 0, 0, false, false, 0, 0, ⟨0, 0, false, false, false⟩, ⟨none, 0, 0, []⟩, 0, ⟨none, 0, 0, []⟩⟩, _, rfl, (St.keep1 (hs17.fr L15)), ?_, ?_⟩
  · exact (by exact ho16)
  · unfold scrCtlRes; rw [hk]; rfl
 ·have hk : scrOk s.dat = true := by have h9 := h8; simpa using h9
  have hf := ScrFine.of hk
  have hxy := hf.pos
  simp only [ScrR.dat, GridR.dat] at hxy
  have hwh : (1 ≤ s.W ∧ s.W ≤ 120) ∧ 1 ≤ s.H ∧ s.H ≤ 120 := ⟨(isSize_bnd hf.size).1, (isSize_bnd hf.size).2.1⟩
  refine WC.skip ?_
  refine hK6 _ _ ?_
  refine WC.sr ?_
  refine WL.r 1 hs7 [1] rfl ?_
  refine WL.cl Tryz.call64 rfl (c_spec_l09Copy s _ (okScrR.st0 f_s hs7) ?_) ?_
  · first | (first | assumption | rfl | omega) | (first | assumption | omega)
  rintro _ whs18 ⟨r19, L1_20, rfl, hs18, ho21, hd22⟩
  replace hs18 := hs7.callF hs18
  refine ⟨_, rfl, ?_⟩
  replace hs18 := St.back [_, _] hs18
  have hcp := hd22
  have hfc : ScrFine (ScrR.dat _) := hcp.symm ▸ hf
  have hsmc : smScr 549755813888 (ScrR.dat _) := hcp.symm ▸ hsmB
  refine WL.al hs18 Tryz.zeroValue33 rfl rfl (fun b23 _ hs24 => ?_)
  refine WL.st tbk hs24 0 rfl rfl (fun _ hs25 => ?_)
  refine WL.nil ?_
  refine WC.seq (fun K26 hK26 => ?_)
  refine WC.r1 hs25 [] rfl ?_
  refine WC.block ?_
  refine WC.r1 hs25 [] rfl ?_
  refine WC.cq rfl (fun h27 qh27 => ?_) (fun h27 qh27 => ?_)
  ·have e8 : b = 8 := by have h9 := h27; simpa using h9
   refine WC.sr ?_
   refine WL.r 6 hs25 [2, 2, 2] rfl ?_
   refine WL.cl Tryz.call163 rfl (c_spec_ScrGo s _ _ _ (okScrR.st0 f_s hs25) ?_) ?_
   · first | (first | assumption | rfl | omega) | (first | assumption | omega)
   rintro _ whs28 ⟨r29, L1_30, rfl, hs28, ho31, hd32⟩
   replace hs28 := hs25.callF hs28
   refine ⟨_, rfl, ?_⟩
   replace hs28 := St.back [_, _, _] hs28
   refine WL.st tbk hs28 1 rfl rfl (fun _ hs33 => ?_)
   refine WL.nil ?_
   refine WC.ret ?_
   refine ibR (tkR ?_)
   clear hK26
   refine retV1 rfl (resV.cellA tbk hs33 1 rfl rfl rfl rfl) ?_
   refine ⟨r29, _, rfl, (St.keep1 (hs33.fr L1_30)), ?_, ?_⟩
   · exact ho31
   · unfold scrCtlRes; rw [if_pos hk]; unfold ctlD; rw [if_pos e8]; exact hd32.trans (by unfold scrGoRes; rw [if_pos hk]; rfl)
  ·have e8 : ¬ b = 8 := by have h9 := h27; simpa using h9
   refine WC.r1 hs25 [] rfl ?_
   refine WC.cq rfl (fun h34 qh34 => ?_) (fun h34 qh34 => ?_)
   ·have e9 : b = 9 := by have h9 := h34; simpa using h9
    refine WC.r1 hs25 [2] rfl ?_
    refine WC.seq (fun K35 hK35 => ?_)
    refine WC.r1 hs25 [2] rfl ?_
    refine WC.block ?_
    refine WC.lS [2, 4, 5, 10, 14, 15, 24] rfl hs25 (fun k_ f w' => ∃ (i : Nat), k_ = 2 * i ∧ (i ≤ s.Tabs.n) ∧ Sub [(7, .int .i64 ((i : Int) - 1)), (6, .int .i64 (nxt (s.Tabs.xs.drop i) s.X (s.W - 1)))] f) ((fun (i : Nat) => 2 * i) (s.Tabs.n)) ?_ ?_
    ·refine ⟨s.Tabs.n, rfl, ?_, ⟨?_, ?_, trivial⟩⟩
     · exact Nat.le_refl _
     · rfl
     · (refine congrArg some (congrArg (Value.int _) ?_); rw [← nl_s_Tabs, nxt_end])
    ·clear hs25
     rintro _ f w ⟨i, rfl, p0, hG⟩ hF hs36
     refine WC.sub _ (hG.app hF) ?_
     clear hG hF
     refine WC.seq (fun K37 hK37 => ?_)
     refine WC.r1 hs36 [] rfl ?_
     refine WC.cq rfl (fun h38 qh38 => ?_) (fun h38 qh38 => ?_)
     ·have hi1 : 1 ≤ i := by have h9 := h38; simp at h9; omega
      have hnx := nxt_drop (x := s.X) (d := s.W - 1) (l := s.Tabs.xs) (i := i - 1) (by omega)
      rw [show i - 1 + 1 = i by omega] at hnx
      refine WC.skip ?_
      refine hK37 _ _ ?_
      refine WC.seq (fun K39 hK39 => ?_)
      refine WC.block ?_
      refine WC.sq1 hs36 ?_
      refine WQ.r 3 [2] rfl ?_
      refine WQ.val rfl rfl rfl (fun w_ hs_ => (Run.idxK (i - 1) Tryz.runUnderlying23 Tryz.sizeOf3 rfl rfl rfl ?_ ?_ ?_)) ?_
      · exact SlF.some_ (SlF.st0 f_s.Tabs (hs_ : St _ _ _ _))
      · omega
      · omega
      refine WQ.val rfl rfl rfl (fun w_ hs_ => (Run.load Tryz.isAgg3 rfl rfl (SlF.one1 (SlF.st0 f_s.Tabs (hs_ : St _ _ _ _)) ?_ rfl))) ?_
      · omega
      refine WQ.r 3 [2] rfl ?_
      refine WQ.nil (fun _ (hs40 : St _ _ _ _) => ?_)
      refine WC.cq rfl (fun h41 qh41 => ?_) (fun h41 qh41 => ?_)
      ·rw [if_pos (show s.X < iat s.Tabs.xs (i - 1) by have h9 := h41; simpa using h9)] at hnx
       refine WC.region ?_
       refine WL.r 3 hs40 [2] rfl ?_
       refine WL.val rfl rfl rfl (Run.idxK (i - 1) Tryz.runUnderlying23 Tryz.sizeOf3 rfl rfl rfl ?_ ?_ ?_) ?_
       · exact SlF.some_ (SlF.st0 f_s.Tabs hs40)
       · omega
       · omega
       refine WL.val rfl rfl rfl (Run.load Tryz.isAgg3 rfl rfl (SlF.one1 (SlF.st0 f_s.Tabs hs40) ?_ rfl)) ?_
       · omega
       refine WL.r 1 hs40 [] rfl ?_
       refine WL.nil ?_
       refine hK39 _ _ ?_
       refine WC.region ?_
       refine WL.r 3 hs40 [] rfl ?_
       refine WL.nil ?_
       refine tkN ?_
       refine ⟨sbF rfl, hs40, _, ?_, (i - 1), rfl, ?_, ⟨?_, ?_, trivial⟩⟩
       · omega
       · omega
       · (refine congrArg some (congrArg (Value.int _) ?_); omega)
       · (refine congrArg some (congrArg (Value.int _) ?_); exact hnx.symm)
      ·rw [if_neg (show ¬ s.X < iat s.Tabs.xs (i - 1) by have h9 := h41; simpa using h9)] at hnx
       refine WC.skip ?_
       refine hK39 _ _ ?_
       refine WC.region ?_
       refine WL.r 3 hs40 [] rfl ?_
       refine WL.nil ?_
       refine tkN ?_
       refine ⟨sbF rfl, hs40, _, ?_, (i - 1), rfl, ?_, ⟨?_, ?_, trivial⟩⟩
       · omega
       · omega
       · (refine congrArg some (congrArg (Value.int _) ?_); omega)
       · (refine congrArg some (congrArg (Value.int _) ?_); exact hnx.symm)
     ·have hxt : nxt (s.Tabs.xs.drop i) s.X (s.W - 1) = nextTab s.dat := by rw [nextTab_nxt, show i = 0 by have h9 := h38; simp at h9; omega]; rfl
      refine WC.exit ?_
      refine hK35 _ _ ?_
      refine WC.sr ?_
      refine WL.r 4 hs36 [2, 2] rfl ?_
      refine WL.cl Tryz.call163 rfl (c_spec_ScrGo s _ _ _ (okScrR.st0 f_s hs36) ?_) ?_
      · first | (first | assumption | rfl | omega) | (first | assumption | omega)
      rintro _ whs42 ⟨r43, L1_44, rfl, hs42, ho45, hd46⟩
      replace hs42 := hs36.callF hs42
      refine ⟨_, rfl, ?_⟩
      replace hs42 := St.back [_, _, _] hs42
      refine WL.st tbk hs42 1 rfl rfl (fun _ hs47 => ?_)
      refine WL.nil ?_
      refine WC.ret ?_
      refine ibR (tkR ?_)
      clear hK26
      refine retV1 rfl (resV.cellA tbk hs47 1 rfl rfl rfl rfl) ?_
      refine ⟨r43, _, rfl, (St.keep1 (hs47.fr L1_44)), ?_, ?_⟩
      · exact ho45
      · unfold scrCtlRes; rw [if_pos hk]; unfold ctlD; rw [if_neg e8, if_pos e9]; exact hd46.trans (by unfold scrGoRes; rw [if_pos hk, hxt]; rfl)
   ·have e9 : ¬ b = 9 := by have h9 := h34; simpa using h9
    refine WC.seq (fun K48 hK48 => ?_)
    refine WC.r1 hs25 [] rfl ?_
    refine WC.cq rfl (fun h49 qh49 => ?_) (fun h49 qh49 => ?_)
    ·have e10 : b = 10 := by have h9 := h49; simpa using h9
     refine WC.skip ?_
     refine hK48 _ _ ?_
     refine WC.condT rfl h49 ?_
     refine WC.sr ?_
     refine WL.r 1 hs25 [0] rfl ?_
     refine WL.cl Tryz.call142 rfl (c_spec_l09Down r19 _ _ ho21 (hs25.ow L1_20) (St.nodupL (hs25.fr L1_20)) ?_ ?_) ?_
     · first | (first | assumption | rfl | omega) | (first | assumption | omega)
     · first | (first | assumption | rfl | omega) | (first | assumption | omega)
     rintro _ whs51 ⟨r52, L1_53, rfl, hs51, ho54, hd55⟩
     replace hs51 := St.lend (hs25.fr L1_20) hs51
     refine ⟨_, rfl, ?_⟩
     replace hs51 := St.back [_, _, _] hs51
     refine WL.st tbk hs51 1 rfl rfl (fun _ hs56 => ?_)
     refine WL.nil ?_
     refine WC.ret ?_
     refine ibR (tkR ?_)
     clear hK26
     refine retV1 rfl (resV.cellA tbk hs56 1 rfl rfl rfl rfl) ?_
     refine ⟨r52, _, rfl, (St.keep1 (hs56.fr L1_53)), ?_, ?_⟩
     · exact ho54
     · unfold scrCtlRes; rw [if_pos hk]; unfold ctlD; rw [if_neg e8, if_neg e9, if_pos (show b = 10 ∨ b = 11 ∨ b = 12 by omega)]; exact hd55.trans (by rw [hcp])
    ·have e10 : ¬ b = 10 := by have h9 := h49; simpa using h9
     refine WC.r1 hs25 [] rfl ?_
     refine WC.cq rfl (fun h57 qh57 => ?_) (fun h57 qh57 => ?_)
     ·have e11 : b = 11 := by have h9 := h57; simpa using h9
      refine WC.skip ?_
      refine hK48 _ _ ?_
      refine WC.condT rfl h57 ?_
      refine WC.sr ?_
      refine WL.r 1 hs25 [0] rfl ?_
      refine WL.cl Tryz.call142 rfl (c_spec_l09Down r19 _ _ ho21 (hs25.ow L1_20) (St.nodupL (hs25.fr L1_20)) ?_ ?_) ?_
      · first | (first | assumption | rfl | omega) | (first | assumption | omega)
      · first | (first | assumption | rfl | omega) | (first | assumption | omega)
      rintro _ whs59 ⟨r60, L1_61, rfl, hs59, ho62, hd63⟩
      replace hs59 := St.lend (hs25.fr L1_20) hs59
      refine ⟨_, rfl, ?_⟩
      replace hs59 := St.back [_, _, _] hs59
      refine WL.st tbk hs59 1 rfl rfl (fun _ hs64 => ?_)
      refine WL.nil ?_
      refine WC.ret ?_
      refine ibR (tkR ?_)
      clear hK26
      refine retV1 rfl (resV.cellA tbk hs64 1 rfl rfl rfl rfl) ?_
      refine ⟨r60, _, rfl, (St.keep1 (hs64.fr L1_61)), ?_, ?_⟩
      · exact ho62
      · unfold scrCtlRes; rw [if_pos hk]; unfold ctlD; rw [if_neg e8, if_neg e9, if_pos (show b = 10 ∨ b = 11 ∨ b = 12 by omega)]; exact hd63.trans (by rw [hcp])
     ·have e11 : ¬ b = 11 := by have h9 := h57; simpa using h9
      refine WC.region ?_
      refine WL.r 2 hs25 [] rfl ?_
      refine WL.nil ?_
      refine hK48 _ _ ?_
      refine WC.cq rfl (fun h65 qh65 => ?_) (fun h65 qh65 => ?_)
      ·have e12 : b = 12 := by have h9 := h65; simpa using h9
       refine WC.sr ?_
       refine WL.r 1 hs25 [0] rfl ?_
       refine WL.cl Tryz.call142 rfl (c_spec_l09Down r19 _ _ ho21 (hs25.ow L1_20) (St.nodupL (hs25.fr L1_20)) ?_ ?_) ?_
       · first | (first | assumption | rfl | omega) | (first | assumption | omega)
       · first | (first | assumption | rfl | omega) | (first | assumption | omega)
       rintro _ whs66 ⟨r67, L1_68, rfl, hs66, ho69, hd70⟩
       replace hs66 := St.lend (hs25.fr L1_20) hs66
       refine ⟨_, rfl, ?_⟩
       replace hs66 := St.back [_, _, _] hs66
       refine WL.st tbk hs66 1 rfl rfl (fun _ hs71 => ?_)
       refine WL.nil ?_
       refine WC.ret ?_
       refine ibR (tkR ?_)
       clear hK26
       refine retV1 rfl (resV.cellA tbk hs71 1 rfl rfl rfl rfl) ?_
       refine ⟨r67, _, rfl, (St.keep1 (hs71.fr L1_68)), ?_, ?_⟩
       · exact ho69
       · unfold scrCtlRes; rw [if_pos hk]; unfold ctlD; rw [if_neg e8, if_neg e9, if_pos (show b = 10 ∨ b = 11 ∨ b = 12 by omega)]; exact hd70.trans (by rw [hcp])
      ·have e12 : ¬ b = 12 := by have h9 := h65; simpa using h9
       refine WC.r1 hs25 [] rfl ?_
       refine WC.cq rfl (fun h72 qh72 => ?_) (fun h72 qh72 => ?_)
       ·have e13 : b = 13 := by have h9 := h72; simpa using h9
        refine WC.sr ?_
        refine WL.r 3 hs25 [2, 2] rfl ?_
        refine WL.cl Tryz.call163 rfl (c_spec_ScrGo s _ _ _ (okScrR.st0 f_s hs25) ?_) ?_
        · first | (first | assumption | rfl | omega) | (first | assumption | omega)
        rintro _ whs73 ⟨r74, L1_75, rfl, hs73, ho76, hd77⟩
        replace hs73 := hs25.callF hs73
        refine ⟨_, rfl, ?_⟩
        replace hs73 := St.back [_, _, _] hs73
        refine WL.st tbk hs73 1 rfl rfl (fun _ hs78 => ?_)
        refine WL.nil ?_
        refine WC.ret ?_
        refine ibR (tkR ?_)
        clear hK26
        refine retV1 rfl (resV.cellA tbk hs78 1 rfl rfl rfl rfl) ?_
        refine ⟨r74, _, rfl, (St.keep1 (hs78.fr L1_75)), ?_, ?_⟩
        · exact ho76
        · unfold scrCtlRes; rw [if_pos hk]; unfold ctlD; rw [if_neg e8, if_neg e9, if_neg (show ¬ (b = 10 ∨ b = 11 ∨ b = 12) by omega), if_pos e13]; exact hd77.trans (by unfold scrGoRes; rw [if_pos hk]; rfl)
       ·have e13 : ¬ b = 13 := by have h9 := h72; simpa using h9
        refine WC.skip ?_
        refine hK26 _ _ ?_
        refine WC.sr ?_
        refine WL.r 1 hs25 [0] rfl ?_
        refine WL.st tbk hs25 1 rfl rfl (fun _ hs79 => ?_)
        refine WL.nil ?_
        refine WC.ret ?_
        refine retV1 rfl (resV.cellA tbk hs79 1 rfl rfl rfl rfl) ?_
        refine ⟨r19, _, rfl, (St.keep1 (hs79.fr L1_20)), ?_, ?_⟩
        · exact ho21
        · unfold scrCtlRes; rw [if_pos hk]; unfold ctlD; rw [if_neg e8, if_neg e9, if_neg (show ¬ (b = 10 ∨ b = 11 ∨ b = 12) by omega), if_neg e13]; exact hcp
theorem c_spec_ScrAct (s : ScrR) (a : ActR) (w : World) (f_s : okScrR 549755813888 w s) (f_a : okActR 549755813888 w a) (hsm : smScr 1048576 s.dat) :
    Calls Tryz.prog 41 #[.agg (cScr s).toArray, .agg #[i64 a.Kind, i64 a.R, .bool a.Mark, .slice a.Args.A a.Args.n a.Args.c]] w fun e w' => ∃ r L1, e = .returned (.agg (cScr r).toArray) ∧ St w [] L1 w' ∧ ownScrR r L1 ∧ r.dat = scrActRes s.dat a.dat := by
 have nb_s_Main_Cells := f_s.Main.Cells_n
 have nl_s_Main_Cells := f_s.Main.Cells.len
 have nb_s_Alt_Cells := f_s.Alt.Cells_n
 have nl_s_Alt_Cells := f_s.Alt.Cells.len
 have nb_s_Tabs := f_s.Tabs_n
 have nl_s_Tabs := f_s.Tabs.len
 have nb_s_Back := f_s.Back_n
 have nl_s_Back := f_s.Back.sl.len
 have nb_a_Args := f_a.Args_n
 have nl_a_Args := f_a.Args.len
 have hsmB : smScr 549755813888 s.dat := by first | assumption | exact smScr_mono hsm (by decide)
 have han := f_a.Args_n
 refine enter 41 Tryz.func41 rfl Tryz.ntmps41 rfl rfl ?_
 have hs1 := St.init w
 refine WC.sr ?_
 refine WL.bx hs1 rfl (fun b2 _ hs3 => ?_)
 refine WL.bx hs3 rfl (fun b4 _ hs5 => ?_)
 refine WL.al hs5 Tryz.zeroValue33 rfl rfl (fun b6 _ hs7 => ?_)
 refine WL.nil ?_
 refine WC.seq (fun K8 hK8 => ?_)
 refine WC.r1 hs7 [1] rfl ?_
 refine WC.block ?_
 refine WC.r1 hs7 [] rfl ?_
 refine WC.cq rfl (fun h9 qh9 => ?_) (fun h9 qh9 => ?_)
 ·have e1 : a.Kind = 1 := by have h9 := h9; simpa using h9
  refine WC.sr ?_
  refine WL.r 3 hs7 [2, 1] rfl ?_
  refine WL.cl Tryz.call114 rfl (c_spec_ScrRune s _ _ (okScrR.st0 f_s hs7) ?_) ?_
  · first | (first | assumption | rfl | omega) | (first | assumption | omega)
  rintro _ whs10 ⟨r11, L1_12, rfl, hs10, ho13, hd14⟩
  replace hs10 := hs7.callF hs10
  refine ⟨_, rfl, ?_⟩
  replace hs10 := St.back [_, _, _] hs10
  refine WL.st tbk hs10 0 rfl rfl (fun _ hs15 => ?_)
  refine WL.nil ?_
  refine WC.ret ?_
  refine ibR (tkR ?_)
  clear hK8
  refine retV1 rfl (resV.cellA tbk hs15 0 rfl rfl rfl rfl) ?_
  refine ⟨r11, _, rfl, (St.keep1 (hs15.fr L1_12)), ?_, ?_⟩
  · exact ho13
  · unfold scrActRes; rw [if_pos (show a.dat.Kind = 1 from e1)]; exact hd14
 ·have e1 : ¬ a.Kind = 1 := by have h9 := h9; simpa using h9
  refine WC.r1 hs7 [] rfl ?_
  refine WC.cq rfl (fun h16 qh16 => ?_) (fun h16 qh16 => ?_)
  ·have e2 : a.Kind = 2 := by have h9 := h16; simpa using h9
   refine WC.sr ?_
   refine WL.r 3 hs7 [2, 1] rfl ?_
   refine WL.cl Tryz.call115 rfl (c_spec_ScrCtl s _ _ (okScrR.st0 f_s hs7) ?_) ?_
   · first | (first | assumption | rfl | omega) | (first | assumption | omega)
   rintro _ whs17 ⟨r18, L1_19, rfl, hs17, ho20, hd21⟩
   replace hs17 := hs7.callF hs17
   refine ⟨_, rfl, ?_⟩
   replace hs17 := St.back [_, _, _] hs17
   refine WL.st tbk hs17 0 rfl rfl (fun _ hs22 => ?_)
   refine WL.nil ?_
   refine WC.ret ?_
   refine ibR (tkR ?_)
   clear hK8
   refine retV1 rfl (resV.cellA tbk hs22 0 rfl rfl rfl rfl) ?_
   refine ⟨r18, _, rfl, (St.keep1 (hs22.fr L1_19)), ?_, ?_⟩
   · exact ho20
   · unfold scrActRes; rw [if_neg (show ¬ a.dat.Kind = 1 from e1), if_pos (show a.dat.Kind = 2 from e2)]; exact hd21
  ·have e2 : ¬ a.Kind = 2 := by have h9 := h16; simpa using h9
   refine WC.r1 hs7 [] rfl ?_
   refine WC.cq rfl (fun h23 qh23 => ?_) (fun h23 qh23 => ?_)
   ·have e3 : a.Kind = 3 := by have h9 := h23; simpa using h9
    refine WC.sr ?_
    refine WL.r 3 hs7 [2, 1] rfl ?_
    refine WL.cl Tryz.call20 rfl (c_spec_ScrEsc s _ _ (okScrR.st0 f_s hs7) ?_) ?_
    · first | (first | assumption | rfl | omega) | (first | assumption | omega)
    rintro _ whs24 ⟨r25, L1_26, rfl, hs24, ho27, hd28⟩
    replace hs24 := hs7.callF hs24
    refine ⟨_, rfl, ?_⟩
    replace hs24 := St.back [_, _, _] hs24
    refine WL.st tbk hs24 0 rfl rfl (fun _ hs29 => ?_)
    refine WL.nil ?_
    refine WC.ret ?_
    refine ibR (tkR ?_)
    clear hK8
    refine retV1 rfl (resV.cellA tbk hs29 0 rfl rfl rfl rfl) ?_
    refine ⟨r25, _, rfl, (St.keep1 (hs29.fr L1_26)), ?_, ?_⟩
    · exact ho27
    · unfold scrActRes; rw [if_neg (show ¬ a.dat.Kind = 1 from e1), if_neg (show ¬ a.dat.Kind = 2 from e2), if_pos (show a.dat.Kind = 3 from e3)]; exact hd28
   ·have e3 : ¬ a.Kind = 3 := by have h9 := h23; simpa using h9
    refine WC.r1 hs7 [] rfl ?_
    refine WC.cq rfl (fun h30 qh30 => ?_) (fun h30 qh30 => ?_)
    ·have e4 : a.Kind = 4 := by have h9 := h30; simpa using h9
     refine WC.sr ?_
     refine WL.r 7 hs7 [2, 1, 1, 1] rfl ?_
     refine WL.cl Tryz.call30 rfl (c_spec_ScrCsi s _ _ _ _ _ _ _ (okScrR.st0 f_s hs7) (SlF.st0 f_a.Args hs7) ?_ ?_) ?_
     · first | (first | assumption | omega) | (first | assumption | omega)
     · first | (first | assumption | omega) | (first | assumption | omega)
     rintro _ whs31 ⟨r32, L1_33, rfl, hs31, ho34, hd35⟩
     replace hs31 := hs7.callF hs31
     refine ⟨_, rfl, ?_⟩
     replace hs31 := St.back [_, _, _] hs31
     refine WL.st tbk hs31 0 rfl rfl (fun _ hs36 => ?_)
     refine WL.nil ?_
     refine WC.ret ?_
     refine ibR (tkR ?_)
     clear hK8
     refine retV1 rfl (resV.cellA tbk hs36 0 rfl rfl rfl rfl) ?_
     refine ⟨r32, _, rfl, (St.keep1 (hs36.fr L1_33)), ?_, ?_⟩
     · exact ho34
     · unfold scrActRes; rw [if_neg (show ¬ a.dat.Kind = 1 from e1), if_neg (show ¬ a.dat.Kind = 2 from e2), if_neg (show ¬ a.dat.Kind = 3 from e3), if_pos (show a.dat.Kind = 4 from e4)]; exact hd35
    ·have e4 : ¬ a.Kind = 4 := by have h9 := h30; simpa using h9
     refine WC.skip ?_
     refine hK8 _ _ ?_
     refine WC.seq (fun K37 hK37 => ?_)
     refine WC.sr ?_
     refine WL.r 1 hs7 [2] rfl ?_
     refine WL.cl Tryz.call63 rfl (c_spec_ScrOk s _ (okScrR.st0 f_s hs7)) ?_
     rintro _ whs38 ⟨rfl, hs38⟩
     replace hs38 := hs7.call0 hs38
     refine ⟨_, rfl, ?_⟩
     refine WL.r 1 hs38 [] rfl ?_
     refine WL.nil ?_
     refine WC.cq rfl (fun h39 qh39 => ?_) (fun h39 qh39 => ?_)
     ·have hk : scrOk s.dat = false := by have h9 := h39; simpa using h9
      refine WC.sr ?_
      refine WL.val rfl rfl rfl (Run.build rfl rfl rfl rfl (built_33)) ?_
      refine WL.st tbk hs38 0 rfl rfl (fun _ hs40 => ?_)
      refine WL.nil ?_
      refine WC.ret ?_
      refine tkR ?_
      clear hK37
      refine retV1 rfl (resV.cellA tbk hs40 0 rfl rfl rfl rfl) ?_
      obtain ⟨L46, hs45, ho47⟩ := ownScrR.fl ((((hs40.fr ([] : Hp)).fr ([] : Hp)).fr ([] : Hp)).fr ([] : Hp)) (OwnF.nil _ _) (OwnF.nil _ _) (OwnF.nil _ _) (OwnN.nil _ _ _)
      have hs48 := (((hs45.fb b2).fb b4).fb b6)
      refine ⟨⟨0, 0, ⟨0, 0, ⟨none, 0, 0, []⟩⟩, ⟨0, 0, ⟨none, 0, 0, []⟩⟩, false, 0, 0, false, ⟨0, 0, false, false, false⟩, 0, 0, false, false, 0, 0, ⟨0, 0, false, false, false⟩, ⟨none, 0, 0, []⟩, 0, ⟨none, 0, 0, []⟩⟩, _, rfl, (St.keep1 (hs48.fr L46)), ?_, ?_⟩
      · exact (by exact ho47)
      · unfold scrActRes; rw [if_neg (show ¬ a.dat.Kind = 1 from e1), if_neg (show ¬ a.dat.Kind = 2 from e2), if_neg (show ¬ a.dat.Kind = 3 from e3), if_neg (show ¬ a.dat.Kind = 4 from e4)]; unfold scrCopyRes; rw [hk]; first | rfl | exact rfl
     ·have hk : scrOk s.dat = true := by have h9 := h39; simpa using h9
      have hf := ScrFine.of hk
      refine WC.skip ?_
      refine hK37 _ _ ?_
      refine WC.sr ?_
      refine WL.r 1 hs38 [2] rfl ?_
      refine WL.cl Tryz.call64 rfl (c_spec_l09Copy s _ (okScrR.st0 f_s hs38) ?_) ?_
      · first | (first | assumption | rfl | omega) | (first | assumption | omega)
      rintro _ whs49 ⟨r50, L1_51, rfl, hs49, ho52, hd53⟩
      replace hs49 := hs38.callF hs49
      refine ⟨_, rfl, ?_⟩
      replace hs49 := St.back [_, _, _] hs49
      refine WL.st tbk hs49 0 rfl rfl (fun _ hs54 => ?_)
      refine WL.nil ?_
      refine WC.ret ?_
      refine retV1 rfl (resV.cellA tbk hs54 0 rfl rfl rfl rfl) ?_
      refine ⟨r50, _, rfl, (St.keep1 (hs54.fr L1_51)), ?_, ?_⟩
      · exact ho52
      · unfold scrActRes; rw [if_neg (show ¬ a.dat.Kind = 1 from e1), if_neg (show ¬ a.dat.Kind = 2 from e2), if_neg (show ¬ a.dat.Kind = 3 from e3), if_neg (show ¬ a.dat.Kind = 4 from e4)]; unfold scrCopyRes; rw [hk]; first | rfl | exact hd53
end Go.Proofs.YtjmegoiclgancaaGreat
namespace Go.Proofs.YtjmegoiclgancaaGreat
open Go Go.RowKit
set_option linter.unusedVariables false
set_option linter.unusedSimpArgs false
set_option maxHeartbeats 4000000 in
theorem c_laws_toScr (a : ScrR) (w : World) (f_a : okScrR 549755813888 w a) :
    Calls Tryz.prog 21 #[.agg (cScr a).toArray] w fun e w' => ∃ r L1, e = .returned (.agg (cScr r).toArray) ∧ St w [] L1 w' ∧ ownScrR r L1 ∧ r.dat = a.dat := by
 have nb_a_Main_Cells := f_a.Main.Cells_n
 have nl_a_Main_Cells := f_a.Main.Cells.len
 have nb_a_Alt_Cells := f_a.Alt.Cells_n
 have nl_a_Alt_Cells := f_a.Alt.Cells.len
 have nb_a_Tabs := f_a.Tabs_n
 have nl_a_Tabs := f_a.Tabs.len
 have nb_a_Back := f_a.Back_n
 have nl_a_Back := f_a.Back.sl.len
 refine enter 68 Tryz.func21 rfl Tryz.ntmps21 rfl rfl ?_
 have hs1 := St.init w
 refine WC.sr ?_
 refine WL.bx hs1 rfl (fun b2 _ hs3 => ?_)
 refine WL.al hs3 Tryz.zeroValue33 rfl rfl (fun b4 _ hs5 => ?_)
 refine WL.nil ?_
 refine WC.sr ?_
 refine WL.al hs5 Tryz.zeroValue33 rfl rfl (fun b6 _ hs7 => ?_)
 refine WL.nil ?_
 refine WC.sr ?_
 refine WL.r 3 hs7 [2] rfl ?_
 refine WL.st tbk hs7 0 rfl rfl (fun _ hs8 => ?_)
 refine WL.nil ?_
 refine WC.sr ?_
 refine WL.r 3 hs8 [2] rfl ?_
 refine WL.st tbk hs8 0 rfl rfl (fun _ hs9 => ?_)
 refine WL.nil ?_
 refine WC.sr ?_
 refine WL.r 2 hs9 [2] rfl ?_
 refine WL.cl Tryz.call71 rfl (c_laws_toGrid a.Main _ (okGridR.st0 f_a.Main hs9)) ?_
 rintro _ whs10 ⟨r11, L1_12, rfl, hs10, ho13, hd14⟩
 replace hs10 := hs9.callF hs10
 refine ⟨_, rfl, ?_⟩
 replace hs10 := St.back [_, _, _] hs10
 refine WL.r 1 hs10 [] rfl ?_
 refine WL.st tbk hs10 0 rfl rfl (fun _ hs15 => ?_)
 refine WL.nil ?_
 refine WC.sr ?_
 refine WL.r 2 hs15 [2] rfl ?_
 refine WL.cl Tryz.call71 rfl (c_laws_toGrid a.Alt _ (okGridR.st0 f_a.Alt hs15)) ?_
 rintro _ whs16 ⟨r17, L1_18, rfl, hs16, ho19, hd20⟩
 replace hs16 := hs15.callF hs16
 refine ⟨_, rfl, ?_⟩
 replace hs16 := St.back [_, _, _] hs16
 refine WL.r 1 hs16 [] rfl ?_
 refine WL.st tbk hs16 0 rfl rfl (fun _ hs21 => ?_)
 refine WL.nil ?_
 refine WC.sr ?_
 refine WL.r 3 hs21 [2] rfl ?_
 refine WL.st tbk hs21 0 rfl rfl (fun _ hs22 => ?_)
 refine WL.nil ?_
 refine WC.sr ?_
 refine WL.r 3 hs22 [2] rfl ?_
 refine WL.st tbk hs22 0 rfl rfl (fun _ hs23 => ?_)
 refine WL.nil ?_
 refine WC.sr ?_
 refine WL.r 3 hs23 [2] rfl ?_
 refine WL.st tbk hs23 0 rfl rfl (fun _ hs24 => ?_)
 refine WL.nil ?_
 refine WC.sr ?_
 refine WL.r 3 hs24 [2] rfl ?_
 refine WL.st tbk hs24 0 rfl rfl (fun _ hs25 => ?_)
 refine WL.nil ?_
 refine WC.sr ?_
 refine WL.r 2 hs25 [2] rfl ?_
 refine WL.cl Tryz.call72 rfl (c_laws_toAttr _ _ _ _ _ _) ?_
 rintro _ whs26 ⟨rfl, hs26⟩
 replace hs26 := hs25.call0 hs26
 refine ⟨_, rfl, ?_⟩
 refine WL.r 1 hs26 [] rfl ?_
 refine WL.st tbk hs26 0 rfl rfl (fun _ hs27 => ?_)
 refine WL.nil ?_
 refine WC.sr ?_
 refine WL.r 3 hs27 [2] rfl ?_
 refine WL.st tbk hs27 0 rfl rfl (fun _ hs28 => ?_)
 refine WL.nil ?_
 refine WC.sr ?_
 refine WL.r 3 hs28 [2] rfl ?_
 refine WL.st tbk hs28 0 rfl rfl (fun _ hs29 => ?_)
 refine WL.nil ?_
 refine WC.sr ?_
 refine WL.r 3 hs29 [2] rfl ?_
 refine WL.st tbk hs29 0 rfl rfl (fun _ hs30 => ?_)
 refine WL.nil ?_
 refine WC.sr ?_
 refine WL.r 3 hs30 [2] rfl ?_
 refine WL.st tbk hs30 0 rfl rfl (fun _ hs31 => ?_)
 refine WL.nil ?_
 refine WC.sr ?_
 refine WL.r 3 hs31 [2] rfl ?_
 refine WL.st tbk hs31 0 rfl rfl (fun _ hs32 => ?_)
 refine WL.nil ?_
 refine WC.sr ?_
 refine WL.r 3 hs32 [2] rfl ?_
 refine WL.st tbk hs32 0 rfl rfl (fun _ hs33 => ?_)
 refine WL.nil ?_
 refine WC.sr ?_
 refine WL.r 2 hs33 [2] rfl ?_
 refine WL.cl Tryz.call72 rfl (c_laws_toAttr _ _ _ _ _ _) ?_
 rintro _ whs34 ⟨rfl, hs34⟩
 replace hs34 := hs33.call0 hs34
 refine ⟨_, rfl, ?_⟩
 refine WL.r 1 hs34 [] rfl ?_
 refine WL.st tbk hs34 0 rfl rfl (fun _ hs35 => ?_)
 refine WL.nil ?_
 refine WC.sr ?_
 refine WL.r 2 hs35 [2] rfl ?_
 refine WL.cl Tryz.call31 rfl (c_laws_toIntS _ _ _ _ _ (SlF.st0 f_a.Tabs hs35) ?_) ?_
 · first | assumption | rfl | omega
 rintro _ whs36 ⟨A37, c38, L1_39, rfl, hs36, ho40⟩
 replace hs36 := hs35.callF hs36
 refine ⟨_, rfl, ?_⟩
 replace hs36 := St.back [_, _, _] hs36
 refine WL.r 1 hs36 [] rfl ?_
 refine WL.st tbk hs36 0 rfl rfl (fun _ hs41 => ?_)
 refine WL.nil ?_
 refine WC.sr ?_
 refine WL.r 3 hs41 [2] rfl ?_
 refine WL.st tbk hs41 0 rfl rfl (fun _ hs42 => ?_)
 refine WL.nil ?_
 refine WC.sr ?_
 refine WL.r 2 hs42 [2] rfl ?_
 refine WL.cl Tryz.call73 rfl (c_laws_toRowS _ _ _ _ _ (SlN.st0 okRowR.st0 f_a.Back hs42) ?_) ?_
 · first | assumption | rfl | omega
 rintro _ whs43 ⟨A44, c45, xs46, L1_47, rfl, hs43, ho48, hd49⟩
 replace hs43 := hs42.callF hs43
 refine ⟨_, rfl, ?_⟩
 replace hs43 := St.back [_, _, _] hs43
 refine WL.r 1 hs43 [] rfl ?_
 refine WL.st tbk hs43 0 rfl rfl (fun _ hs50 => ?_)
 refine WL.nil ?_
 refine WC.sr ?_
 refine WL.r 1 hs50 [0] rfl ?_
 refine WL.st tbk hs50 1 rfl rfl (fun _ hs51 => ?_)
 refine WL.nil ?_
 refine WC.ret ?_
 refine retV1 rfl (resV.cellA tbk hs51 1 rfl rfl rfl rfl) ?_
 obtain ⟨L53, hs52, ho54⟩ := ownScrR.fl ((((hs51.fr L1_47).fr L1_39).fr L1_18).fr L1_12) ho13 ho19 ho40 ho48
 have hs55 := (((hs52.fb b2).fb b4).fb b6)
 refine ⟨⟨a.W, a.H, ⟨r11.W, r11.H, SlD.of ho13⟩, ⟨r17.W, r17.H, SlD.of ho19⟩, a.OnAlt, a.X, a.Y, a.Wrap, ⟨_, _, _, _, _⟩, a.Top, a.Bot, a.NoWrap, a.Hide, a.SaveX, a.SaveY, ⟨_, _, _, _, _⟩, SlD.of ho40, a.Limit, SlD.ofN ho48⟩, _, rfl, (St.keep1 (hs55.fr L53)), ?_, ?_⟩
 · exact (by exact ho54)
 · exact ScrD.ext' rfl rfl hd14 hd20 rfl rfl rfl rfl rfl rfl rfl rfl rfl rfl rfl rfl rfl rfl hd49
set_option maxHeartbeats 4000000 in
theorem c_laws_eqScr (a : ScrR) (b : ScrR) (w : World) (f_a : okScrR 549755813888 w a) (f_b : okScrR 549755813888 w b) (hab : a.dat = b.dat) :
    Calls Tryz.prog 23 #[.agg (cScr a).toArray, .agg (cScr b).toArray] w fun e w' => e = .returned (.bool true) ∧ St w [] [] w' := by
 have nb_a_Main_Cells := f_a.Main.Cells_n
 have nl_a_Main_Cells := f_a.Main.Cells.len
 have nb_a_Alt_Cells := f_a.Alt.Cells_n
 have nl_a_Alt_Cells := f_a.Alt.Cells.len
 have nb_a_Tabs := f_a.Tabs_n
 have nl_a_Tabs := f_a.Tabs.len
 have nb_a_Back := f_a.Back_n
 have nl_a_Back := f_a.Back.sl.len
 have nb_b_Main_Cells := f_b.Main.Cells_n
 have nl_b_Main_Cells := f_b.Main.Cells.len
 have nb_b_Alt_Cells := f_b.Alt.Cells_n
 have nl_b_Alt_Cells := f_b.Alt.Cells.len
 have nb_b_Tabs := f_b.Tabs_n
 have nl_b_Tabs := f_b.Tabs.len
 have nb_b_Back := f_b.Back_n
 have nl_b_Back := f_b.Back.sl.len
 have e_W : a.W = b.W := congrArg (fun d : ScrD => d.W) hab
 have e_H : a.H = b.H := congrArg (fun d : ScrD => d.H) hab
 have e_Main : a.Main.dat = b.Main.dat := congrArg (fun d : ScrD => d.Main) hab
 have e_Main_W : a.Main.W = b.Main.W := congrArg (fun d : ScrD => d.Main.W) hab
 have e_Main_H : a.Main.H = b.Main.H := congrArg (fun d : ScrD => d.Main.H) hab
 have e_Main_Cells : a.Main.Cells.xs = b.Main.Cells.xs := congrArg (fun d : ScrD => d.Main.Cells) hab
 have e_Alt : a.Alt.dat = b.Alt.dat := congrArg (fun d : ScrD => d.Alt) hab
 have e_Alt_W : a.Alt.W = b.Alt.W := congrArg (fun d : ScrD => d.Alt.W) hab
 have e_Alt_H : a.Alt.H = b.Alt.H := congrArg (fun d : ScrD => d.Alt.H) hab
 have e_Alt_Cells : a.Alt.Cells.xs = b.Alt.Cells.xs := congrArg (fun d : ScrD => d.Alt.Cells) hab
 have e_OnAlt : a.OnAlt = b.OnAlt := congrArg (fun d : ScrD => d.OnAlt) hab
 have e_X : a.X = b.X := congrArg (fun d : ScrD => d.X) hab
 have e_Y : a.Y = b.Y := congrArg (fun d : ScrD => d.Y) hab
 have e_Wrap : a.Wrap = b.Wrap := congrArg (fun d : ScrD => d.Wrap) hab
 have e_A : a.A = b.A := congrArg (fun d : ScrD => d.A) hab
 have e_A_Fg : a.A.Fg = b.A.Fg := congrArg (fun d : ScrD => d.A.Fg) hab
 have e_A_Bg : a.A.Bg = b.A.Bg := congrArg (fun d : ScrD => d.A.Bg) hab
 have e_A_Bold : a.A.Bold = b.A.Bold := congrArg (fun d : ScrD => d.A.Bold) hab
 have e_A_Under : a.A.Under = b.A.Under := congrArg (fun d : ScrD => d.A.Under) hab
 have e_A_Turn : a.A.Turn = b.A.Turn := congrArg (fun d : ScrD => d.A.Turn) hab
 have e_Top : a.Top = b.Top := congrArg (fun d : ScrD => d.Top) hab
 have e_Bot : a.Bot = b.Bot := congrArg (fun d : ScrD => d.Bot) hab
 have e_NoWrap : a.NoWrap = b.NoWrap := congrArg (fun d : ScrD => d.NoWrap) hab
 have e_Hide : a.Hide = b.Hide := congrArg (fun d : ScrD => d.Hide) hab
 have e_SaveX : a.SaveX = b.SaveX := congrArg (fun d : ScrD => d.SaveX) hab
 have e_SaveY : a.SaveY = b.SaveY := congrArg (fun d : ScrD => d.SaveY) hab
 have e_SaveA : a.SaveA = b.SaveA := congrArg (fun d : ScrD => d.SaveA) hab
 have e_SaveA_Fg : a.SaveA.Fg = b.SaveA.Fg := congrArg (fun d : ScrD => d.SaveA.Fg) hab
 have e_SaveA_Bg : a.SaveA.Bg = b.SaveA.Bg := congrArg (fun d : ScrD => d.SaveA.Bg) hab
 have e_SaveA_Bold : a.SaveA.Bold = b.SaveA.Bold := congrArg (fun d : ScrD => d.SaveA.Bold) hab
 have e_SaveA_Under : a.SaveA.Under = b.SaveA.Under := congrArg (fun d : ScrD => d.SaveA.Under) hab
 have e_SaveA_Turn : a.SaveA.Turn = b.SaveA.Turn := congrArg (fun d : ScrD => d.SaveA.Turn) hab
 have e_Tabs : a.Tabs.xs = b.Tabs.xs := congrArg (fun d : ScrD => d.Tabs) hab
 have e_Limit : a.Limit = b.Limit := congrArg (fun d : ScrD => d.Limit) hab
 have e_Back : a.Back.xs.map RowR.dat = b.Back.xs.map RowR.dat := congrArg (fun d : ScrD => d.Back) hab
 refine enter 106 Tryz.func23 rfl Tryz.ntmps23 rfl rfl ?_
 have hs1 := St.init w
 refine WC.sr ?_
 refine WL.bx hs1 rfl (fun b2 _ hs3 => ?_)
 refine WL.bx hs3 rfl (fun b4 _ hs5 => ?_)
 refine WL.r 1 hs5 [] rfl ?_
 refine WL.nil ?_
 refine WC.seq (fun K6 hK6 => ?_)
 refine WC.r1 hs5 [1, 0] rfl ?_
 refine WC.condF rfl (by simp [e_W, e_H, e_Main_W, e_Main_H, e_Alt_W, e_Alt_H, e_OnAlt, e_X, e_Y, e_Wrap, e_A_Fg, e_A_Bg, e_A_Bold, e_A_Under, e_A_Turn, e_Top, e_Bot, e_NoWrap, e_Hide, e_SaveX, e_SaveY, e_SaveA_Fg, e_SaveA_Bg, e_SaveA_Bold, e_SaveA_Under, e_SaveA_Turn, e_Limit]) ?_
 refine WC.skip ?_
 refine hK6 _ _ ?_
 refine WC.seq (fun K8 hK8 => ?_)
 refine WC.r1 hs5 [1, 0] rfl ?_
 refine WC.condF rfl (by simp [e_W, e_H, e_Main_W, e_Main_H, e_Alt_W, e_Alt_H, e_OnAlt, e_X, e_Y, e_Wrap, e_A_Fg, e_A_Bg, e_A_Bold, e_A_Under, e_A_Turn, e_Top, e_Bot, e_NoWrap, e_Hide, e_SaveX, e_SaveY, e_SaveA_Fg, e_SaveA_Bg, e_SaveA_Bold, e_SaveA_Under, e_SaveA_Turn, e_Limit]) ?_
 refine WC.skip ?_
 refine hK8 _ _ ?_
 refine WC.seq (fun K10 hK10 => ?_)
 refine WC.sr ?_
 refine WL.r 4 hs5 [1, 0] rfl ?_
 refine WL.cl Tryz.call77 rfl (c_laws_eqGrid a.Main b.Main _ (okGridR.st0 f_a.Main hs5) (okGridR.st0 f_b.Main hs5) ?_) ?_
 · first | assumption | rfl | omega
 rintro _ whs11 ⟨rfl, hs11⟩
 replace hs11 := hs5.call0 hs11
 refine ⟨_, rfl, ?_⟩
 refine WL.r 1 hs11 [] rfl ?_
 refine WL.nil ?_
 refine WC.condF rfl (by simp [e_W, e_H, e_Main_W, e_Main_H, e_Alt_W, e_Alt_H, e_OnAlt, e_X, e_Y, e_Wrap, e_A_Fg, e_A_Bg, e_A_Bold, e_A_Under, e_A_Turn, e_Top, e_Bot, e_NoWrap, e_Hide, e_SaveX, e_SaveY, e_SaveA_Fg, e_SaveA_Bg, e_SaveA_Bold, e_SaveA_Under, e_SaveA_Turn, e_Limit]) ?_
 refine WC.skip ?_
 refine hK10 _ _ ?_
 refine WC.seq (fun K13 hK13 => ?_)
 refine WC.sr ?_
 refine WL.r 4 hs11 [1, 0] rfl ?_
 refine WL.cl Tryz.call77 rfl (c_laws_eqGrid a.Alt b.Alt _ (okGridR.st0 f_a.Alt hs11) (okGridR.st0 f_b.Alt hs11) ?_) ?_
 · first | assumption | rfl | omega
 rintro _ whs14 ⟨rfl, hs14⟩
 replace hs14 := hs11.call0 hs14
 refine ⟨_, rfl, ?_⟩
 refine WL.r 1 hs14 [] rfl ?_
 refine WL.nil ?_
 refine WC.condF rfl (by simp [e_W, e_H, e_Main_W, e_Main_H, e_Alt_W, e_Alt_H, e_OnAlt, e_X, e_Y, e_Wrap, e_A_Fg, e_A_Bg, e_A_Bold, e_A_Under, e_A_Turn, e_Top, e_Bot, e_NoWrap, e_Hide, e_SaveX, e_SaveY, e_SaveA_Fg, e_SaveA_Bg, e_SaveA_Bold, e_SaveA_Under, e_SaveA_Turn, e_Limit]) ?_
 refine WC.skip ?_
 refine hK13 _ _ ?_
 refine WC.seq (fun K16 hK16 => ?_)
 refine WC.r1 hs14 [1, 0] rfl ?_
 refine WC.condF rfl (by simp [e_W, e_H, e_Main_W, e_Main_H, e_Alt_W, e_Alt_H, e_OnAlt, e_X, e_Y, e_Wrap, e_A_Fg, e_A_Bg, e_A_Bold, e_A_Under, e_A_Turn, e_Top, e_Bot, e_NoWrap, e_Hide, e_SaveX, e_SaveY, e_SaveA_Fg, e_SaveA_Bg, e_SaveA_Bold, e_SaveA_Under, e_SaveA_Turn, e_Limit]) ?_
 refine WC.skip ?_
 refine hK16 _ _ ?_
 refine WC.seq (fun K18 hK18 => ?_)
 refine WC.r1 hs14 [1, 0] rfl ?_
 refine WC.condF rfl (by simp [e_W, e_H, e_Main_W, e_Main_H, e_Alt_W, e_Alt_H, e_OnAlt, e_X, e_Y, e_Wrap, e_A_Fg, e_A_Bg, e_A_Bold, e_A_Under, e_A_Turn, e_Top, e_Bot, e_NoWrap, e_Hide, e_SaveX, e_SaveY, e_SaveA_Fg, e_SaveA_Bg, e_SaveA_Bold, e_SaveA_Under, e_SaveA_Turn, e_Limit]) ?_
 refine WC.skip ?_
 refine hK18 _ _ ?_
 refine WC.seq (fun K20 hK20 => ?_)
 refine WC.r1 hs14 [1, 0] rfl ?_
 refine WC.condF rfl (by simp [e_W, e_H, e_Main_W, e_Main_H, e_Alt_W, e_Alt_H, e_OnAlt, e_X, e_Y, e_Wrap, e_A_Fg, e_A_Bg, e_A_Bold, e_A_Under, e_A_Turn, e_Top, e_Bot, e_NoWrap, e_Hide, e_SaveX, e_SaveY, e_SaveA_Fg, e_SaveA_Bg, e_SaveA_Bold, e_SaveA_Under, e_SaveA_Turn, e_Limit]) ?_
 refine WC.skip ?_
 refine hK20 _ _ ?_
 refine WC.seq (fun K22 hK22 => ?_)
 refine WC.r1 hs14 [1, 0] rfl ?_
 refine WC.condF rfl (by simp [e_W, e_H, e_Main_W, e_Main_H, e_Alt_W, e_Alt_H, e_OnAlt, e_X, e_Y, e_Wrap, e_A_Fg, e_A_Bg, e_A_Bold, e_A_Under, e_A_Turn, e_Top, e_Bot, e_NoWrap, e_Hide, e_SaveX, e_SaveY, e_SaveA_Fg, e_SaveA_Bg, e_SaveA_Bold, e_SaveA_Under, e_SaveA_Turn, e_Limit]) ?_
 refine WC.skip ?_
 refine hK22 _ _ ?_
 refine WC.seq (fun K24 hK24 => ?_)
 refine WC.sr ?_
 refine WL.r 4 hs14 [1, 0] rfl ?_
 refine WL.cl Tryz.call78 rfl (c_laws_eqAttr _ _ _ _ _ _ _ _ _ _ _ ?_) ?_
 · first | assumption | rfl | omega
 rintro _ whs25 ⟨rfl, hs25⟩
 replace hs25 := hs14.call0 hs25
 refine ⟨_, rfl, ?_⟩
 refine WL.r 1 hs25 [] rfl ?_
 refine WL.nil ?_
 refine WC.condF rfl (by simp [e_W, e_H, e_Main_W, e_Main_H, e_Alt_W, e_Alt_H, e_OnAlt, e_X, e_Y, e_Wrap, e_A_Fg, e_A_Bg, e_A_Bold, e_A_Under, e_A_Turn, e_Top, e_Bot, e_NoWrap, e_Hide, e_SaveX, e_SaveY, e_SaveA_Fg, e_SaveA_Bg, e_SaveA_Bold, e_SaveA_Under, e_SaveA_Turn, e_Limit]) ?_
 refine WC.skip ?_
 refine hK24 _ _ ?_
 refine WC.seq (fun K27 hK27 => ?_)
 refine WC.r1 hs25 [1, 0] rfl ?_
 refine WC.condF rfl (by simp [e_W, e_H, e_Main_W, e_Main_H, e_Alt_W, e_Alt_H, e_OnAlt, e_X, e_Y, e_Wrap, e_A_Fg, e_A_Bg, e_A_Bold, e_A_Under, e_A_Turn, e_Top, e_Bot, e_NoWrap, e_Hide, e_SaveX, e_SaveY, e_SaveA_Fg, e_SaveA_Bg, e_SaveA_Bold, e_SaveA_Under, e_SaveA_Turn, e_Limit]) ?_
 refine WC.skip ?_
 refine hK27 _ _ ?_
 refine WC.seq (fun K29 hK29 => ?_)
 refine WC.r1 hs25 [1, 0] rfl ?_
 refine WC.condF rfl (by simp [e_W, e_H, e_Main_W, e_Main_H, e_Alt_W, e_Alt_H, e_OnAlt, e_X, e_Y, e_Wrap, e_A_Fg, e_A_Bg, e_A_Bold, e_A_Under, e_A_Turn, e_Top, e_Bot, e_NoWrap, e_Hide, e_SaveX, e_SaveY, e_SaveA_Fg, e_SaveA_Bg, e_SaveA_Bold, e_SaveA_Under, e_SaveA_Turn, e_Limit]) ?_
 refine WC.skip ?_
 refine hK29 _ _ ?_
 refine WC.seq (fun K31 hK31 => ?_)
 refine WC.r1 hs25 [1, 0] rfl ?_
 refine WC.condF rfl (by simp [e_W, e_H, e_Main_W, e_Main_H, e_Alt_W, e_Alt_H, e_OnAlt, e_X, e_Y, e_Wrap, e_A_Fg, e_A_Bg, e_A_Bold, e_A_Under, e_A_Turn, e_Top, e_Bot, e_NoWrap, e_Hide, e_SaveX, e_SaveY, e_SaveA_Fg, e_SaveA_Bg, e_SaveA_Bold, e_SaveA_Under, e_SaveA_Turn, e_Limit]) ?_
 refine WC.skip ?_
 refine hK31 _ _ ?_
 refine WC.seq (fun K33 hK33 => ?_)
 refine WC.r1 hs25 [1, 0] rfl ?_
 refine WC.condF rfl (by simp [e_W, e_H, e_Main_W, e_Main_H, e_Alt_W, e_Alt_H, e_OnAlt, e_X, e_Y, e_Wrap, e_A_Fg, e_A_Bg, e_A_Bold, e_A_Under, e_A_Turn, e_Top, e_Bot, e_NoWrap, e_Hide, e_SaveX, e_SaveY, e_SaveA_Fg, e_SaveA_Bg, e_SaveA_Bold, e_SaveA_Under, e_SaveA_Turn, e_Limit]) ?_
 refine WC.skip ?_
 refine hK33 _ _ ?_
 refine WC.seq (fun K35 hK35 => ?_)
 refine WC.r1 hs25 [1, 0] rfl ?_
 refine WC.condF rfl (by simp [e_W, e_H, e_Main_W, e_Main_H, e_Alt_W, e_Alt_H, e_OnAlt, e_X, e_Y, e_Wrap, e_A_Fg, e_A_Bg, e_A_Bold, e_A_Under, e_A_Turn, e_Top, e_Bot, e_NoWrap, e_Hide, e_SaveX, e_SaveY, e_SaveA_Fg, e_SaveA_Bg, e_SaveA_Bold, e_SaveA_Under, e_SaveA_Turn, e_Limit]) ?_
 refine WC.skip ?_
 refine hK35 _ _ ?_
 refine WC.seq (fun K37 hK37 => ?_)
 refine WC.r1 hs25 [1, 0] rfl ?_
 refine WC.condF rfl (by simp [e_W, e_H, e_Main_W, e_Main_H, e_Alt_W, e_Alt_H, e_OnAlt, e_X, e_Y, e_Wrap, e_A_Fg, e_A_Bg, e_A_Bold, e_A_Under, e_A_Turn, e_Top, e_Bot, e_NoWrap, e_Hide, e_SaveX, e_SaveY, e_SaveA_Fg, e_SaveA_Bg, e_SaveA_Bold, e_SaveA_Under, e_SaveA_Turn, e_Limit]) ?_
 refine WC.skip ?_
 refine hK37 _ _ ?_
 refine WC.seq (fun K39 hK39 => ?_)
 refine WC.sr ?_
 refine WL.r 4 hs25 [1, 0] rfl ?_
 refine WL.cl Tryz.call78 rfl (c_laws_eqAttr _ _ _ _ _ _ _ _ _ _ _ ?_) ?_
 · first | assumption | rfl | omega
 rintro _ whs40 ⟨rfl, hs40⟩
 replace hs40 := hs25.call0 hs40
 refine ⟨_, rfl, ?_⟩
 refine WL.r 1 hs40 [] rfl ?_
 refine WL.nil ?_
 refine WC.condF rfl (by simp [e_W, e_H, e_Main_W, e_Main_H, e_Alt_W, e_Alt_H, e_OnAlt, e_X, e_Y, e_Wrap, e_A_Fg, e_A_Bg, e_A_Bold, e_A_Under, e_A_Turn, e_Top, e_Bot, e_NoWrap, e_Hide, e_SaveX, e_SaveY, e_SaveA_Fg, e_SaveA_Bg, e_SaveA_Bold, e_SaveA_Under, e_SaveA_Turn, e_Limit]) ?_
 refine WC.skip ?_
 refine hK39 _ _ ?_
 refine WC.seq (fun K42 hK42 => ?_)
 refine WC.sr ?_
 refine WL.r 4 hs40 [1, 0] rfl ?_
 refine WL.cl Tryz.call33 rfl (c_laws_eqIntS _ _ _ _ _ _ _ _ _ (SlF.st0 f_a.Tabs hs40) (SlF.st0 f_b.Tabs hs40) ?_ ?_) ?_
 · first | assumption | rfl | omega
 · first | assumption | rfl | omega
 rintro _ whs43 ⟨rfl, hs43⟩
 replace hs43 := hs40.call0 hs43
 refine ⟨_, rfl, ?_⟩
 refine WL.r 1 hs43 [] rfl ?_
 refine WL.nil ?_
 refine WC.condF rfl (by simp [e_W, e_H, e_Main_W, e_Main_H, e_Alt_W, e_Alt_H, e_OnAlt, e_X, e_Y, e_Wrap, e_A_Fg, e_A_Bg, e_A_Bold, e_A_Under, e_A_Turn, e_Top, e_Bot, e_NoWrap, e_Hide, e_SaveX, e_SaveY, e_SaveA_Fg, e_SaveA_Bg, e_SaveA_Bold, e_SaveA_Under, e_SaveA_Turn, e_Limit]) ?_
 refine WC.skip ?_
 refine hK42 _ _ ?_
 refine WC.seq (fun K45 hK45 => ?_)
 refine WC.r1 hs43 [1, 0] rfl ?_
 refine WC.condF rfl (by simp [e_W, e_H, e_Main_W, e_Main_H, e_Alt_W, e_Alt_H, e_OnAlt, e_X, e_Y, e_Wrap, e_A_Fg, e_A_Bg, e_A_Bold, e_A_Under, e_A_Turn, e_Top, e_Bot, e_NoWrap, e_Hide, e_SaveX, e_SaveY, e_SaveA_Fg, e_SaveA_Bg, e_SaveA_Bold, e_SaveA_Under, e_SaveA_Turn, e_Limit]) ?_
 refine WC.skip ?_
 refine hK45 _ _ ?_
 refine WC.seq (fun K47 hK47 => ?_)
 refine WC.sr ?_
 refine WL.r 4 hs43 [1, 0] rfl ?_
 refine WL.cl Tryz.call79 rfl (c_laws_eqRowS _ _ _ _ _ _ _ _ _ (SlN.st0 okRowR.st0 f_a.Back hs43) (SlN.st0 okRowR.st0 f_b.Back hs43) ?_ ?_) ?_
 · first | assumption | rfl | omega
 · first | assumption | rfl | omega
 rintro _ whs48 ⟨rfl, hs48⟩
 replace hs48 := hs43.call0 hs48
 refine ⟨_, rfl, ?_⟩
 refine WL.r 1 hs48 [] rfl ?_
 refine WL.nil ?_
 refine WC.condF rfl (by simp [e_W, e_H, e_Main_W, e_Main_H, e_Alt_W, e_Alt_H, e_OnAlt, e_X, e_Y, e_Wrap, e_A_Fg, e_A_Bg, e_A_Bold, e_A_Under, e_A_Turn, e_Top, e_Bot, e_NoWrap, e_Hide, e_SaveX, e_SaveY, e_SaveA_Fg, e_SaveA_Bg, e_SaveA_Bold, e_SaveA_Under, e_SaveA_Turn, e_Limit]) ?_
 refine WC.skip ?_
 refine hK47 _ _ ?_
 refine WC.r1 hs48 [] rfl ?_
 refine WC.ret ?_
 refine retV1 rfl (resV.tmp rfl) ?_
 refine ⟨congrArg Ending.returned ?_, hs48.nil⟩
 rfl
set_option maxHeartbeats 4000000 in
theorem c_laws_szScr (a : ScrR) (left : Int) (w : World) (f_a : okScrR 9223372036854775807 w a) (h1 : 0 ≤ left) (h2 : left ≤ 1048576) :
    Calls Tryz.prog 19 #[.agg (cScr a).toArray, i64 left] w fun e w' => e = .returned (.int .i64 (szR left (totScr a.dat))) ∧ St w [] [] w' := by
 have nb_a_Main_Cells := f_a.Main.Cells_n
 have nl_a_Main_Cells := f_a.Main.Cells.len
 have nb_a_Alt_Cells := f_a.Alt.Cells_n
 have nl_a_Alt_Cells := f_a.Alt.Cells.len
 have nb_a_Tabs := f_a.Tabs_n
 have nl_a_Tabs := f_a.Tabs.len
 have nb_a_Back := f_a.Back_n
 have nl_a_Back := f_a.Back.sl.len
 refine enter 30 Tryz.func19 rfl Tryz.ntmps19 rfl rfl ?_
 have hs1 := St.init w
 refine WC.sr ?_
 refine WL.bx hs1 rfl (fun b2 _ hs3 => ?_)
 refine WL.r 1 hs3 [] rfl ?_
 refine WL.nil ?_
 refine WC.sr ?_
 refine WL.r 3 hs3 [0] rfl ?_
 refine WL.cl Tryz.call60 rfl (c_laws_szGrid a.Main _ _ (okGridR.st0 f_a.Main hs3) ?_ ?_) ?_
 · first | assumption | omega
 · first | assumption | omega | exact szR_b (by assumption) (by omega) (by first | assumption | omega)
 rintro _ whs4 ⟨rfl, hs4⟩
 replace hs4 := hs3.call0 hs4
 refine ⟨_, rfl, ?_⟩
 refine WL.r 1 hs4 [] rfl ?_
 refine WL.nil ?_
 refine WC.seq (fun K5 hK5 => ?_)
 refine WC.r1 hs4 [] rfl ?_
 refine WC.cD rfl (fun qh6 => ?_) (fun qh6 => ?_)
 ·try have soh6 := szR_ok qh6 (by omega)
  try have sbh6 := szR_b qh6 (by omega) (by first | assumption | omega)
  try have snh6 := szR_no qh6
  refine WC.r1 hs4 [] rfl ?_
  refine WC.ret ?_
  refine tkR ?_
  clear hK5
  refine retV1 rfl (resV.tmp rfl) ?_
  refine ⟨congrArg Ending.returned ?_, hs4.nil⟩
  simp only [totGrid, totScr, GridR.dat, ScrR.dat] at *; first | (rw [szR_lt (by omega)]; done) | (refine congrArg (Value.int _) ?_; symm; refine (szR_le ?_).trans ?_ <;> omega) | rfl
 ·try have soh6 := szR_ok qh6 (by omega)
  try have sbh6 := szR_b qh6 (by omega) (by first | assumption | omega)
  try have snh6 := szR_no qh6
  refine WC.skip ?_
  refine hK5 _ _ ?_
  refine WC.sr ?_
  refine WL.r 3 hs4 [0] rfl ?_
  refine WL.cl Tryz.call60 rfl (c_laws_szGrid a.Alt _ _ (okGridR.st0 f_a.Alt hs4) ?_ ?_) ?_
  · first | assumption | omega
  · first | assumption | omega | exact szR_b (by assumption) (by omega) (by first | assumption | omega)
  rintro _ whs7 ⟨rfl, hs7⟩
  replace hs7 := hs4.call0 hs7
  refine ⟨_, rfl, ?_⟩
  refine WL.r 1 hs7 [] rfl ?_
  refine WL.nil ?_
  refine WC.seq (fun K8 hK8 => ?_)
  refine WC.r1 hs7 [] rfl ?_
  refine WC.cD rfl (fun qh9 => ?_) (fun qh9 => ?_)
  ·try have soh9 := szR_ok qh9 (by omega)
   try have sbh9 := szR_b qh9 (by omega) (by first | assumption | omega)
   try have snh9 := szR_no qh9
   refine WC.r1 hs7 [] rfl ?_
   refine WC.ret ?_
   refine tkR ?_
   clear hK8
   refine retV1 rfl (resV.tmp rfl) ?_
   refine ⟨congrArg Ending.returned ?_, hs7.nil⟩
   simp only [totGrid, totScr, GridR.dat, ScrR.dat] at *; first | (rw [szR_lt (by omega)]; done) | (refine congrArg (Value.int _) ?_; symm; refine (szR_le ?_).trans ?_ <;> omega) | rfl
  ·try have soh9 := szR_ok qh9 (by omega)
   try have sbh9 := szR_b qh9 (by omega) (by first | assumption | omega)
   try have snh9 := szR_no qh9
   refine WC.skip ?_
   refine hK8 _ _ ?_
   refine WC.sr ?_
   refine WL.r 3 hs7 [0] rfl ?_
   refine WL.cl Tryz.call61 rfl (c_laws_szIntS _ _ _ _ _ _ (SlF.st0 f_a.Tabs hs7) ?_ ?_ ?_) ?_
   · first | assumption | omega
   · first | assumption | omega | exact szR_b (by assumption) (by omega) (by first | assumption | omega)
   · first | assumption | omega
   rintro _ whs10 ⟨rfl, hs10⟩
   replace hs10 := hs7.call0 hs10
   refine ⟨_, rfl, ?_⟩
   refine WL.r 1 hs10 [] rfl ?_
   refine WL.nil ?_
   refine WC.seq (fun K11 hK11 => ?_)
   refine WC.r1 hs10 [] rfl ?_
   refine WC.cD rfl (fun qh12 => ?_) (fun qh12 => ?_)
   ·try have soh12 := szR_ok qh12 (by omega)
    try have sbh12 := szR_b qh12 (by omega) (by first | assumption | omega)
    try have snh12 := szR_no qh12
    refine WC.r1 hs10 [] rfl ?_
    refine WC.ret ?_
    refine tkR ?_
    clear hK11
    refine retV1 rfl (resV.tmp rfl) ?_
    refine ⟨congrArg Ending.returned ?_, hs10.nil⟩
    simp only [totGrid, totScr, GridR.dat, ScrR.dat] at *; first | (rw [szR_lt (by omega)]; done) | (refine congrArg (Value.int _) ?_; symm; refine (szR_le ?_).trans ?_ <;> omega) | rfl
   ·try have soh12 := szR_ok qh12 (by omega)
    try have sbh12 := szR_b qh12 (by omega) (by first | assumption | omega)
    try have snh12 := szR_no qh12
    refine WC.skip ?_
    refine hK11 _ _ ?_
    refine WC.sr ?_
    refine WL.r 3 hs10 [0] rfl ?_
    refine WL.cl Tryz.call62 rfl (c_laws_szRowS _ _ _ _ _ _ (SlN.st0 okRowR.st0 f_a.Back hs10) ?_ ?_ ?_) ?_
    · first | assumption | omega
    · first | assumption | omega | exact szR_b (by assumption) (by omega) (by first | assumption | omega)
    · first | assumption | omega
    rintro _ whs13 ⟨rfl, hs13⟩
    replace hs13 := hs10.call0 hs13
    refine ⟨_, rfl, ?_⟩
    refine WL.r 1 hs13 [] rfl ?_
    refine WL.nil ?_
    refine WC.seq (fun K14 hK14 => ?_)
    refine WC.r1 hs13 [] rfl ?_
    refine WC.cD rfl (fun qh15 => ?_) (fun qh15 => ?_)
    ·try have soh15 := szR_ok qh15 (by omega)
     try have sbh15 := szR_b qh15 (by omega) (by first | assumption | omega)
     try have snh15 := szR_no qh15
     refine WC.r1 hs13 [] rfl ?_
     refine WC.ret ?_
     refine tkR ?_
     clear hK14
     refine retV1 rfl (resV.tmp rfl) ?_
     refine ⟨congrArg Ending.returned ?_, hs13.nil⟩
     simp only [totGrid, totScr, GridR.dat, ScrR.dat] at *; first | (rw [szR_lt (by omega)]; done) | (refine congrArg (Value.int _) ?_; symm; refine (szR_le ?_).trans ?_ <;> omega) | rfl
    ·try have soh15 := szR_ok qh15 (by omega)
     try have sbh15 := szR_b qh15 (by omega) (by first | assumption | omega)
     try have snh15 := szR_no qh15
     refine WC.skip ?_
     refine hK14 _ _ ?_
     refine WC.r1 hs13 [] rfl ?_
     refine WC.ret ?_
     refine retV1 rfl (resV.tmp rfl) ?_
     refine ⟨congrArg Ending.returned ?_, hs13.nil⟩
     simp only [totGrid, totScr, GridR.dat, ScrR.dat] at *; first | (rw [szR_lt (by omega)]; done) | (refine congrArg (Value.int _) ?_; symm; refine (szR_le ?_).trans ?_ <;> omega) | rfl
set_option maxHeartbeats 4000000 in
theorem c_laws_markScr (a : ScrR) (L_a : Hp) (k : Int) (w : World) (o_a : ownScrR a L_a) (h_a : ∀ p, p ∈ L_a → w.heap[p.1]? = some p.2) (hd_ : ((L_a).map (·.1)).Nodup) (h1 : 0 ≤ k) (h2 : endScr k a ≤ 549755813888) (hb_Back : a.Back.xs.length ≤ 549755813888) :
    Calls Tryz.prog 24 #[.agg (cScr a).toArray, i64 k] w fun e w' => ∃ L1, e = .returned (.int .i64 (endScr k a)) ∧ St w (L_a.map (·.1)) L1 w' ∧ ownScrR (markScr k a) L1 := by
 have hq2 := h2
 simp only [endGrid, endScr] at hq2
 have hcn_Back := cnts_nonneg (c := cntERow) (fun x => by simp only [cntERow]; omega) a.Back.xs
 refine enter 22 Tryz.func24 rfl Tryz.ntmps24 rfl rfl ?_
 have hs1 := St.takes1 w L_a h_a hd_
 refine WC.sr ?_
 refine WL.bx hs1 rfl (fun b2 _ hs3 => ?_)
 refine WL.r 1 hs3 [] rfl ?_
 refine WL.nil ?_
 refine WC.sr ?_
 refine WL.r 3 hs3 [0] rfl ?_
 obtain ⟨L4, L5, L6, L7, hs12, ho8, ho9, ho10, ho11⟩ := ownScrR.open_ (hs3.fr L_a) o_a
 have hs13 := (hs12.fb b2)
 refine WL.cl Tryz.call80 rfl (c_laws_markGrid ⟨a.Main.W, a.Main.H, SlD.of ho8⟩ _ _ _ ho8 (hs13.ow L4) (St.nodupL (hs13.fr L4)) ?_ ?_) ?_
 · first | (first | assumption | omega) | (simp only [endGrid, endScr]; omega)
 · first | (first | assumption | omega | (simp only [endGrid]; omega)) | (simp only [endGrid, endScr]; omega)
 rintro _ whs14 ⟨L1_15, rfl, hs14, ho16⟩
 replace hs14 := St.lend (hs13.fr L4) hs14
 refine ⟨_, rfl, ?_⟩
 replace hs14 := St.back [_] hs14
 refine WL.r 1 hs14 [] rfl ?_
 refine WL.nil ?_
 refine WC.sr ?_
 refine WL.r 3 hs14 [0] rfl ?_
 refine WL.cl Tryz.call80 rfl (c_laws_markGrid ⟨a.Alt.W, a.Alt.H, SlD.of ho9⟩ _ _ _ ho9 (hs14.ow L5) (St.nodupL (hs14.fr L5)) ?_ ?_) ?_
 · first | (first | assumption | omega) | (simp only [endGrid, endScr]; omega)
 · first | (first | assumption | omega | (simp only [endGrid]; omega)) | (simp only [endGrid, endScr]; omega)
 rintro _ whs17 ⟨L1_18, rfl, hs17, ho19⟩
 replace hs17 := St.lend (hs14.fr L5) hs17
 refine ⟨_, rfl, ?_⟩
 replace hs17 := St.back [_] hs17
 refine WL.r 1 hs17 [] rfl ?_
 refine WL.nil ?_
 refine WC.sr ?_
 refine WL.r 3 hs17 [0] rfl ?_
 refine WL.cl Tryz.call34 rfl (c_laws_markIntS _ _ _ _ _ ho10 (hs17.ow L6) ?_ ?_ ?_) ?_
 · first | (first | assumption | rfl | omega) | (simp only [endGrid, endScr]; omega)
 · first | (first | assumption | rfl | omega) | (simp only [endGrid, endScr]; omega)
 · first | (first | assumption | rfl | omega) | (simp only [endGrid, endScr]; omega)
 rintro _ whs20 ⟨L1_21, rfl, hs20, ho22⟩
 replace hs20 := St.lend (hs17.fr L6) hs20
 refine ⟨_, rfl, ?_⟩
 replace hs20 := St.back [_] hs20
 refine WL.r 1 hs20 [] rfl ?_
 refine WL.nil ?_
 refine WC.sr ?_
 refine WL.r 3 hs20 [0] rfl ?_
 refine WL.cl Tryz.call81 rfl (c_laws_markRowS _ _ _ _ _ ho11 (hs20.ow L7) (St.nodupL (hs20.fr L7)) ?_ ?_ ?_) ?_
 · first | (first | assumption | omega) | (simp only [endGrid, endScr]; omega)
 · first | (first | assumption | omega) | (simp only [endGrid, endScr]; omega)
 · first | (first | assumption | omega) | (simp only [endGrid, endScr]; omega)
 rintro _ whs23 ⟨L1_24, rfl, hs23, ho25⟩
 replace hs23 := St.lend (hs20.fr L7) hs23
 refine ⟨_, rfl, ?_⟩
 replace hs23 := St.back [_] hs23
 refine WL.r 1 hs23 [] rfl ?_
 refine WL.nil ?_
 refine WC.r1 hs23 [] rfl ?_
 refine WC.ret ?_
 refine retV1 rfl (resV.tmp rfl) ?_
 obtain ⟨L27, hs26, ho28⟩ := ownScrR.fl ((((hs23.fr L1_24).fr L1_21).fr L1_18).fr L1_15) ho16 ho19 ho22 ho25
 have hs29 := (hs26.fb b2)
 refine ⟨_, congrArg Ending.returned ?_, (St.keep1 (hs29.fr L27)), (by exact ho28)⟩
 first | rfl | (simp [endScr]; done) | (simp [endScr]; omega)
set_option maxHeartbeats 4000000 in
theorem c_laws_heldScr (a : ScrR) (k : Int) (w : World) (f_a : okScrR 549755813888 w (markScr k a)) (h1 : 0 ≤ k) (h2 : endScr k a ≤ 549755813888) :
    Calls Tryz.prog 25 #[.agg (cScr a).toArray, i64 k] w fun e w' => e = .returned (.int .i64 (endScr k a)) ∧ St w [] [] w' := by
 have fm_Main : okGridR 549755813888 w (markGrid k a.Main) := f_a.Main
 have fm_Alt : okGridR 549755813888 w (markGrid (endGrid k a.Main) a.Alt) := f_a.Alt
 have nb_Main_Cells : a.Main.Cells.n ≤ 549755813888 := f_a.Main.Cells_n
 have nl_Main_Cells : a.Main.Cells.xs.length = a.Main.Cells.n := by have h_ := f_a.Main.Cells.len; simpa [markGrid, markScr, marks_len, mrks_len] using h_
 have nb_Alt_Cells : a.Alt.Cells.n ≤ 549755813888 := f_a.Alt.Cells_n
 have nl_Alt_Cells : a.Alt.Cells.xs.length = a.Alt.Cells.n := by have h_ := f_a.Alt.Cells.len; simpa [markGrid, markScr, marks_len, mrks_len] using h_
 have nb_Tabs : a.Tabs.n ≤ 549755813888 := f_a.Tabs_n
 have nl_Tabs : a.Tabs.xs.length = a.Tabs.n := by have h_ := f_a.Tabs.len; simpa [markGrid, markScr, marks_len, mrks_len] using h_
 have nb_Back : a.Back.n ≤ 549755813888 := f_a.Back_n
 have nl_Back : a.Back.xs.length = a.Back.n := by have h_ := f_a.Back.sl.len; simpa [markGrid, markScr, marks_len, mrks_len] using h_
 have fm_Main : okGridR 549755813888 w (markGrid k a.Main) := f_a.Main
 have fm_Alt : okGridR 549755813888 w (markGrid (endGrid k a.Main) a.Alt) := f_a.Alt
 have nb_Main_Cells : a.Main.Cells.n ≤ 549755813888 := f_a.Main.Cells_n
 have nl_Main_Cells : a.Main.Cells.xs.length = a.Main.Cells.n := by have h_ := f_a.Main.Cells.len; simpa [markGrid, markScr, marks_len, mrks_len] using h_
 have nb_Alt_Cells : a.Alt.Cells.n ≤ 549755813888 := f_a.Alt.Cells_n
 have nl_Alt_Cells : a.Alt.Cells.xs.length = a.Alt.Cells.n := by have h_ := f_a.Alt.Cells.len; simpa [markGrid, markScr, marks_len, mrks_len] using h_
 have nb_Tabs : a.Tabs.n ≤ 549755813888 := f_a.Tabs_n
 have nl_Tabs : a.Tabs.xs.length = a.Tabs.n := by have h_ := f_a.Tabs.len; simpa [markGrid, markScr, marks_len, mrks_len] using h_
 have nb_Back : a.Back.n ≤ 549755813888 := f_a.Back_n
 have nl_Back : a.Back.xs.length = a.Back.n := by have h_ := f_a.Back.sl.len; simpa [markGrid, markScr, marks_len, mrks_len] using h_
 have hq2 := h2
 simp only [endGrid, endScr] at hq2
 have hcn_Back := cnts_nonneg (c := cntERow) (fun x => by simp only [cntERow]; omega) a.Back.xs
 refine enter 30 Tryz.func25 rfl Tryz.ntmps25 rfl rfl ?_
 have hs1 := St.init w
 refine WC.sr ?_
 refine WL.bx hs1 rfl (fun b2 _ hs3 => ?_)
 refine WL.r 1 hs3 [] rfl ?_
 refine WL.nil ?_
 refine WC.sr ?_
 refine WL.r 3 hs3 [0] rfl ?_
 refine WL.cl Tryz.call82 rfl (c_laws_heldGrid _ _ _ (okGridR.st0 fm_Main hs3) ?_ ?_) ?_
 · first | (first | assumption | omega) | (simp only [endGrid, endScr]; omega)
 · first | (first | assumption | omega | (simp only [endGrid]; omega)) | (simp only [endGrid, endScr]; omega)
 rintro _ whs4 ⟨rfl, hs4⟩
 replace hs4 := hs3.call0 hs4
 refine ⟨_, rfl, ?_⟩
 refine WL.r 1 hs4 [] rfl ?_
 refine WL.nil ?_
 refine WC.seq (fun K5 hK5 => ?_)
 refine WC.r1 hs4 [] rfl ?_
 refine WC.condF rfl (by first | (simp; omega) | (rw [decide_eq_false_iff_not]; simp only [endGrid, endScr]; omega)) ?_
 refine WC.skip ?_
 refine hK5 _ _ ?_
 refine WC.sr ?_
 refine WL.r 3 hs4 [0] rfl ?_
 refine WL.cl Tryz.call82 rfl (c_laws_heldGrid _ _ _ (okGridR.st0 fm_Alt hs4) ?_ ?_) ?_
 · first | (first | assumption | omega) | (simp only [endGrid, endScr]; omega)
 · first | (first | assumption | omega | (simp only [endGrid]; omega)) | (simp only [endGrid, endScr]; omega)
 rintro _ whs7 ⟨rfl, hs7⟩
 replace hs7 := hs4.call0 hs7
 refine ⟨_, rfl, ?_⟩
 refine WL.r 1 hs7 [] rfl ?_
 refine WL.nil ?_
 refine WC.seq (fun K8 hK8 => ?_)
 refine WC.r1 hs7 [] rfl ?_
 refine WC.condF rfl (by first | (simp; omega) | (rw [decide_eq_false_iff_not]; simp only [endGrid, endScr]; omega)) ?_
 refine WC.skip ?_
 refine hK8 _ _ ?_
 refine WC.sr ?_
 refine WL.r 3 hs7 [0] rfl ?_
 refine WL.cl Tryz.call83 rfl (c_laws_heldIntS _ _ _ _ _ _ _ (SlF.st0 f_a.Tabs hs7) rfl ?_ ?_ ?_) ?_
 · first | (first | assumption | rfl | omega) | (simp only [endGrid, endScr]; omega)
 · first | (first | assumption | rfl | omega) | (simp only [endGrid, endScr]; omega)
 · first | (first | assumption | rfl | omega) | (simp only [endGrid, endScr]; omega)
 rintro _ whs10 ⟨rfl, hs10⟩
 replace hs10 := hs7.call0 hs10
 refine ⟨_, rfl, ?_⟩
 refine WL.r 1 hs10 [] rfl ?_
 refine WL.nil ?_
 refine WC.seq (fun K11 hK11 => ?_)
 refine WC.r1 hs10 [] rfl ?_
 refine WC.condF rfl (by first | (simp; omega) | (rw [decide_eq_false_iff_not]; simp only [endGrid, endScr]; omega)) ?_
 refine WC.skip ?_
 refine hK11 _ _ ?_
 refine WC.sr ?_
 refine WL.r 3 hs10 [0] rfl ?_
 refine WL.cl Tryz.call84 rfl (c_laws_heldRowS _ _ _ _ _ _ (SlN.st0 okRowR.st0 f_a.Back hs10) ?_ ?_ ?_) ?_
 · first | (first | assumption | omega) | (simp only [endGrid, endScr]; omega)
 · first | (first | assumption | omega) | (simp only [endGrid, endScr]; omega)
 · first | (first | assumption | omega) | (simp only [endGrid, endScr]; omega)
 rintro _ whs13 ⟨rfl, hs13⟩
 replace hs13 := hs10.call0 hs13
 refine ⟨_, rfl, ?_⟩
 refine WL.r 1 hs13 [] rfl ?_
 refine WL.nil ?_
 refine WC.seq (fun K14 hK14 => ?_)
 refine WC.r1 hs13 [] rfl ?_
 refine WC.condF rfl (by first | (simp; omega) | (rw [decide_eq_false_iff_not]; simp only [endGrid, endScr]; omega)) ?_
 refine WC.skip ?_
 refine hK14 _ _ ?_
 refine WC.r1 hs13 [] rfl ?_
 refine WC.ret ?_
 refine retV1 rfl (resV.tmp rfl) ?_
 refine ⟨congrArg Ending.returned ?_, hs13.nil⟩
 first | rfl | (simp [endGrid, endScr, *]; done) | (simp [endGrid, endScr, *]; omega)
end Go.Proofs.YtjmegoiclgancaaGreat
namespace Go.Proofs.YtjmegoiclgancaaGreat
open Go Go.RowKit
set_option linter.unusedVariables false
set_option linter.unusedSimpArgs false
set_option maxHeartbeats 4000000 in
theorem c_laws_toAct (a : ActR) (w : World) (f_a : okActR 549755813888 w a) :
    Calls Tryz.prog 42 #[.agg #[i64 a.Kind, i64 a.R, .bool a.Mark, .slice a.Args.A a.Args.n a.Args.c]] w fun e w' => ∃ r L1, e = .returned (.agg #[i64 r.Kind, i64 r.R, .bool r.Mark, .slice r.Args.A r.Args.n r.Args.c]) ∧ St w [] L1 w' ∧ ownActR r L1 ∧ r.dat = a.dat := by
 have nb_a_Args := f_a.Args_n
 have nl_a_Args := f_a.Args.len
 refine enter 18 Tryz.func42 rfl Tryz.ntmps42 rfl rfl ?_
 have hs1 := St.init w
 refine WC.sr ?_
 refine WL.bx hs1 rfl (fun b2 _ hs3 => ?_)
 refine WL.al hs3 Tryz.zeroValue59 rfl rfl (fun b4 _ hs5 => ?_)
 refine WL.nil ?_
 refine WC.sr ?_
 refine WL.al hs5 Tryz.zeroValue59 rfl rfl (fun b6 _ hs7 => ?_)
 refine WL.nil ?_
 refine WC.sr ?_
 refine WL.r 3 hs7 [2] rfl ?_
 refine WL.st tbk hs7 0 rfl rfl (fun _ hs8 => ?_)
 refine WL.nil ?_
 refine WC.sr ?_
 refine WL.r 3 hs8 [2] rfl ?_
 refine WL.st tbk hs8 0 rfl rfl (fun _ hs9 => ?_)
 refine WL.nil ?_
 refine WC.sr ?_
 refine WL.r 3 hs9 [2] rfl ?_
 refine WL.st tbk hs9 0 rfl rfl (fun _ hs10 => ?_)
 refine WL.nil ?_
 refine WC.sr ?_
 refine WL.r 2 hs10 [2] rfl ?_
 refine WL.cl Tryz.call31 rfl (c_laws_toIntS _ _ _ _ _ (SlF.st0 f_a.Args hs10) ?_) ?_
 · first | assumption | rfl | omega
 rintro _ whs11 ⟨A12, c13, L1_14, rfl, hs11, ho15⟩
 replace hs11 := hs10.callF hs11
 refine ⟨_, rfl, ?_⟩
 replace hs11 := St.back [_, _, _] hs11
 refine WL.r 1 hs11 [] rfl ?_
 refine WL.st tbk hs11 0 rfl rfl (fun _ hs16 => ?_)
 refine WL.nil ?_
 refine WC.sr ?_
 refine WL.r 1 hs16 [0] rfl ?_
 refine WL.st tbk hs16 1 rfl rfl (fun _ hs17 => ?_)
 refine WL.nil ?_
 refine WC.ret ?_
 refine retV1 rfl (resV.cellA tbk hs17 1 rfl rfl rfl rfl) ?_
 refine ⟨⟨a.Kind, a.R, a.Mark, SlD.of ho15⟩, _, rfl, (St.keep1 (hs17.fr L1_14)), ?_, ?_⟩
 · exact ho15
 · exact ActD.ext' rfl rfl rfl rfl
set_option maxHeartbeats 4000000 in
theorem c_laws_szAct (a : ActR) (left : Int) (w : World) (f_a : okActR 9223372036854775807 w a) (h1 : 0 ≤ left) (h2 : left ≤ 1048576) :
    Calls Tryz.prog 40 #[.agg #[i64 a.Kind, i64 a.R, .bool a.Mark, .slice a.Args.A a.Args.n a.Args.c], i64 left] w fun e w' => e = .returned (.int .i64 (szR left (totAct a.dat))) ∧ St w [] [] w' := by
 have nb_a_Args := f_a.Args_n
 have nl_a_Args := f_a.Args.len
 refine enter 12 Tryz.func40 rfl Tryz.ntmps40 rfl rfl ?_
 have hs1 := St.init w
 refine WC.sr ?_
 refine WL.bx hs1 rfl (fun b2 _ hs3 => ?_)
 refine WL.r 1 hs3 [] rfl ?_
 refine WL.nil ?_
 refine WC.sr ?_
 refine WL.r 3 hs3 [0] rfl ?_
 refine WL.cl Tryz.call61 rfl (c_laws_szIntS _ _ _ _ _ _ (SlF.st0 f_a.Args hs3) ?_ ?_ ?_) ?_
 · first | assumption | omega
 · first | assumption | omega | exact szR_b (by assumption) (by omega) (by first | assumption | omega)
 · first | assumption | omega
 rintro _ whs4 ⟨rfl, hs4⟩
 replace hs4 := hs3.call0 hs4
 refine ⟨_, rfl, ?_⟩
 refine WL.r 1 hs4 [] rfl ?_
 refine WL.nil ?_
 refine WC.seq (fun K5 hK5 => ?_)
 refine WC.r1 hs4 [] rfl ?_
 refine WC.cD rfl (fun qh6 => ?_) (fun qh6 => ?_)
 ·try have soh6 := szR_ok qh6 (by omega)
  try have sbh6 := szR_b qh6 (by omega) (by first | assumption | omega)
  try have snh6 := szR_no qh6
  refine WC.r1 hs4 [] rfl ?_
  refine WC.ret ?_
  refine tkR ?_
  clear hK5
  refine retV1 rfl (resV.tmp rfl) ?_
  refine ⟨congrArg Ending.returned ?_, hs4.nil⟩
  simp only [totAct, ActR.dat] at *; first | (rw [szR_lt (by omega)]; done) | (refine congrArg (Value.int _) ?_; symm; refine (szR_le ?_).trans ?_ <;> omega) | rfl
 ·try have soh6 := szR_ok qh6 (by omega)
  try have sbh6 := szR_b qh6 (by omega) (by first | assumption | omega)
  try have snh6 := szR_no qh6
  refine WC.skip ?_
  refine hK5 _ _ ?_
  refine WC.r1 hs4 [] rfl ?_
  refine WC.ret ?_
  refine retV1 rfl (resV.tmp rfl) ?_
  refine ⟨congrArg Ending.returned ?_, hs4.nil⟩
  simp only [totAct, ActR.dat] at *; first | (rw [szR_lt (by omega)]; done) | (refine congrArg (Value.int _) ?_; symm; refine (szR_le ?_).trans ?_ <;> omega) | rfl
set_option maxHeartbeats 4000000 in
theorem c_laws_markAct (a : ActR) (L_a : Hp) (k : Int) (w : World) (o_a : ownActR a L_a) (h_a : ∀ p, p ∈ L_a → w.heap[p.1]? = some p.2) (hd_ : ((L_a).map (·.1)).Nodup) (h1 : 0 ≤ k) (h2 : endAct k a ≤ 549755813888) :
    Calls Tryz.prog 44 #[.agg #[i64 a.Kind, i64 a.R, .bool a.Mark, .slice a.Args.A a.Args.n a.Args.c], i64 k] w fun e w' => ∃ L1, e = .returned (.int .i64 (endAct k a)) ∧ St w (L_a.map (·.1)) L1 w' ∧ ownActR (markAct k a) L1 := by
 have hq2 := h2
 simp only [endAct] at hq2
 refine enter 10 Tryz.func44 rfl Tryz.ntmps44 rfl rfl ?_
 have hs1 := St.takes1 w L_a h_a hd_
 refine WC.sr ?_
 refine WL.bx hs1 rfl (fun b2 _ hs3 => ?_)
 refine WL.r 1 hs3 [] rfl ?_
 refine WL.nil ?_
 refine WC.sr ?_
 refine WL.r 3 hs3 [0] rfl ?_
 refine WL.cl Tryz.call34 rfl (c_laws_markIntS _ _ _ _ _ o_a (hs3.ow L_a) ?_ ?_ ?_) ?_
 · first | (first | assumption | rfl | omega) | (simp only [endAct]; omega)
 · first | (first | assumption | rfl | omega) | (simp only [endAct]; omega)
 · first | (first | assumption | rfl | omega) | (simp only [endAct]; omega)
 rintro _ whs4 ⟨L1_5, rfl, hs4, ho6⟩
 replace hs4 := St.lend (hs3.fr L_a) hs4
 refine ⟨_, rfl, ?_⟩
 replace hs4 := St.back [_] hs4
 refine WL.r 1 hs4 [] rfl ?_
 refine WL.nil ?_
 refine WC.r1 hs4 [] rfl ?_
 refine WC.ret ?_
 refine retV1 rfl (resV.tmp rfl) ?_
 refine ⟨_, congrArg Ending.returned ?_, (St.keep1 (hs4.fr L1_5)), ho6⟩
 first | rfl | (simp [endAct]; done) | (simp [endAct]; omega)
end Go.Proofs.YtjmegoiclgancaaGreat
namespace Go.Proofs.YtjmegoiclgancaaGreat
open Go Go.RowKit
set_option linter.unusedVariables false
set_option linter.unusedSimpArgs false
set_option maxHeartbeats 8000000 in
theorem c_laws_FnExactScrAct (aS : ScrR) (aA : ActR) (w : World) (f_aS : okScrR 9223372036854775807 w aS) (f_aA : okActR 9223372036854775807 w aA) :
    Calls Tryz.prog 8 #[.agg (cScr aS).toArray, .agg #[i64 aA.Kind, i64 aA.R, .bool aA.Mark, .slice aA.Args.A aA.Args.n aA.Args.c]] w fun e w' => e = .returned (.bool true) ∧ St w [] [] w' := by
 have nb_aS_Main_Cells := f_aS.Main.Cells_n
 have nl_aS_Main_Cells := f_aS.Main.Cells.len
 have nb_aS_Alt_Cells := f_aS.Alt.Cells_n
 have nl_aS_Alt_Cells := f_aS.Alt.Cells.len
 have nb_aS_Tabs := f_aS.Tabs_n
 have nl_aS_Tabs := f_aS.Tabs.len
 have nb_aS_Back := f_aS.Back_n
 have nl_aS_Back := f_aS.Back.sl.len
 have nb_aA_Args := f_aA.Args_n
 have nl_aA_Args := f_aA.Args.len
 refine enter 92 Tryz.func8 rfl Tryz.ntmps8 rfl rfl ?_
 have hs1 := St.init w
 refine WC.sr ?_
 refine WL.bx hs1 rfl (fun b2 _ hs3 => ?_)
 refine WL.bx hs3 rfl (fun b4 _ hs5 => ?_)
 refine WL.r 1 hs5 [] rfl ?_
 refine WL.nil ?_
 refine WC.r1 hs5 [] rfl ?_
 refine WC.sr ?_
 refine WL.r 2 hs5 [1] rfl ?_
 refine WL.cl Tryz.call19 rfl (c_laws_szScr aS _ _ (okScrR.st0 f_aS hs5) ?_ ?_) ?_
 · first | (first | assumption | omega) | (first | assumption | omega | (simp only [endAct, endGrid, endScr, endTerm, endVp]; first | done | assumption | omega))
 · first | (first | assumption | omega | exact szR_b (by assumption) (by omega) (by first | assumption | omega)) | (first | assumption | omega | (simp only [endAct, endGrid, endScr, endTerm, endVp]; first | done | assumption | omega))
 rintro _ whs6 ⟨rfl, hs6⟩
 replace hs6 := hs5.call0 hs6
 refine ⟨_, rfl, ?_⟩
 refine WL.r 1 hs6 [] rfl ?_
 refine WL.nil ?_
 refine WC.seq (fun K7 hK7 => ?_)
 refine WC.r1 hs6 [] rfl ?_
 refine WC.cD rfl (fun qh8 => ?_) (fun qh8 => ?_)
 ·refine WC.r1 hs6 [] rfl ?_
  refine WC.ret ?_
  refine tkR ?_
  clear hK7
  refine retV1 rfl (resV.tmp rfl) ?_
  refine ⟨congrArg Ending.returned ?_, hs6.nil⟩
  rfl
 ·simp only [szR] at qh8
  have hb_aS : totScr aS.dat ≤ 1048576 := by split at qh8 <;> omega
  have hsm_aS : smScr 1048576 aS.dat := totScr_sm hb_aS
  have hsB_aS : smScr 549755813888 aS.dat := totScr_sm (by omega)
  have f_aS := f_aS.to hsB_aS
  have hl0 : 0 ≤ szR 1048576 (totScr aS.dat) ∧ szR 1048576 (totScr aS.dat) ≤ 1048576 := by unfold szR; split <;> omega
  refine WC.skip ?_
  refine hK7 _ _ ?_
  refine WC.sr ?_
  refine WL.r 2 hs6 [0] rfl ?_
  refine WL.cl Tryz.call40 rfl (c_laws_szAct aA _ _ (okActR.st0 f_aA hs6) ?_ ?_) ?_
  · first | (first | assumption | omega) | (first | assumption | omega | (simp only [endAct, endGrid, endScr, endTerm, endVp]; first | done | assumption | omega))
  · first | (first | assumption | omega | exact szR_b (by assumption) (by omega) (by first | assumption | omega)) | (first | assumption | omega | (simp only [endAct, endGrid, endScr, endTerm, endVp]; first | done | assumption | omega))
  rintro _ whs9 ⟨rfl, hs9⟩
  replace hs9 := hs6.call0 hs9
  refine ⟨_, rfl, ?_⟩
  refine WL.r 1 hs9 [] rfl ?_
  refine WL.nil ?_
  refine WC.seq (fun K10 hK10 => ?_)
  refine WC.r1 hs9 [] rfl ?_
  refine WC.cD rfl (fun qh11 => ?_) (fun qh11 => ?_)
  ·refine WC.r1 hs9 [] rfl ?_
   refine WC.ret ?_
   refine tkR ?_
   clear hK10
   refine retV1 rfl (resV.tmp rfl) ?_
   refine ⟨congrArg Ending.returned ?_, hs9.nil⟩
   rfl
  ·have hb_aA : totAct aA.dat ≤ 1048576 := by unfold szR at qh11; (repeat' split at qh11) <;> omega
   have hsm_aA : smAct 1048576 aA.dat := totAct_sm hb_aA
   have hsB_aA : smAct 549755813888 aA.dat := totAct_sm (by omega)
   have f_aA := f_aA.to hsB_aA
   have hT := scrActRes_tot (s := aS.dat) (a := aA.dat)
   have hTB : smScr 549755813888 (scrActRes aS.dat aA.dat) := totScr_sm (by omega)
   refine WC.skip ?_
   refine hK10 _ _ ?_
   refine WC.seq (fun K12 hK12 => ?_)
   refine WC.jR 6 [0, 1, 2, 3, 4, 5, 14, 15, 16, 17, 18, 19, 20, 21, 22, 23] rfl hs9 (fun o_ L_ => ∃ r : ScrR, o_ = Obj.cells (List.toArray (cScr r)) 33 (0, 0) ∧ ownScrR r L_ ∧ r.dat = scrActRes aS.dat aA.dat) ?_ ?_
   ·refine WC.rH hs9 hs9 (fun _ hs13 => ?_)
    refine WH.rn [0, 2] hs13 [1, 0] rfl rfl ?_
    refine WH.all [1, 5] (by kernel_rfl) rfl (WHs.cons (i := 1) rfl ?_ (WHs.cons (i := 5) rfl ?_ WHs.nil))
    ·refine WL.cl Tryz.call21 rfl (c_laws_toScr aS _ (okScrR.st0 f_aS hs13)) ?_
     rintro _ whs14 ⟨r15, L1_16, rfl, hs14, ho17, hd18⟩
     replace hs14 := hs13.callF hs14
     refine ⟨_, rfl, ?_⟩
     replace hs14 := St.back [_, _] hs14
     refine WL.nil ⟨(hs14.rm L1_16), ?_⟩
     refine WH.all [3, 5] (by kernel_rfl) rfl (WHs.cons (i := 3) rfl ?_ (WHs.cons (i := 5) rfl ?_ WHs.nil))
     ·refine WL.cl Tryz.call42 rfl (c_laws_toAct aA _ (okActR.st0 f_aA hs14)) ?_
      rintro _ whs19 ⟨r20, L1_21, rfl, hs19, ho22, hd23⟩
      try simp only [hd18] at hd23
      replace hs19 := hs14.callF hs19
      refine ⟨_, rfl, ?_⟩
      replace hs19 := St.back [_, _] hs19
      refine WL.nil ⟨((hs19.rm L1_21).rm L1_16), ?_⟩
      refine WH.all [4, 5] (by kernel_rfl) rfl (WHs.cons (i := 4) rfl ?_ (WHs.cons (i := 5) rfl ?_ WHs.nil))
      ·refine WL.cl Tryz.call41 rfl (c_spec_ScrAct r15 r20 _ (ownScrR.ok (B := 549755813888) ho17 (hs19.ow L1_16) (by rw [hd18]; assumption)) (ownActR.ok (B := 549755813888) ho22 (hs19.ow L1_21) (by rw [hd23]; assumption)) ?_) ?_
       · first | (first | assumption | rfl | omega) | (first | assumption | omega | (simp only [hd18, hd23, endAct, endGrid, endScr, endTerm, endVp]; first | done | assumption | omega))
       rintro _ whs24 ⟨r25, L1_26, rfl, hs24, ho27, hd28⟩
       try simp only [hd18, hd23] at hd28
       replace hs24 := hs19.callF hs24
       refine ⟨_, rfl, ?_⟩
       replace hs24 := St.back [_, _] hs24
       refine WL.nil ⟨(((hs24.rm L1_26).rm L1_21).rm L1_16), ?_⟩
       refine WH.o1 5 rfl ?_
       refine WL.al hs24 Tryz.zeroValue33 rfl rfl (fun b29 _ hs30 => ?_)
       refine WL.nil ⟨(((hs30.d1.rm L1_26).rm L1_21).rm L1_16), ?_⟩
       refine WH.o1 6 rfl ?_
       refine WL.st tbk hs30 0 rfl rfl (fun _ hs31 => ?_)
       refine WL.nil ⟨(((hs31.d1.rm L1_26).rm L1_21).rm L1_16), ?_⟩
       refine WH.dn ?_
       replace hs31 := ((hs31.rm L1_21).rm L1_16)
       exact ⟨rfl, b29, _, _, ((((hs31.fb b2).fb b4).fr L1_26).fb b29), ⟨r25, rfl, ho27, by first | exact hd28 | (rw [hd28]; simp only [hd18, hd23, hd28])⟩, ⟨rfl, sbF rfl⟩⟩
      ·refine WL.al hs19 Tryz.zeroValue33 rfl rfl (fun b32 _ hs33 => ?_)
       refine WL.nil ⟨((hs33.d1.rm L1_21).rm L1_16), ?_⟩
       refine WH.o1 4 rfl ?_
       refine WL.cl Tryz.call41 rfl (c_spec_ScrAct r15 r20 _ (ownScrR.ok (B := 549755813888) ho17 (hs33.ow L1_16) (by rw [hd18]; assumption)) (ownActR.ok (B := 549755813888) ho22 (hs33.ow L1_21) (by rw [hd23]; assumption)) ?_) ?_
       · first | (first | assumption | rfl | omega) | (first | assumption | omega | (simp only [hd18, hd23, endAct, endGrid, endScr, endTerm, endVp]; first | done | assumption | omega))
       rintro _ whs34 ⟨r35, L1_36, rfl, hs34, ho37, hd38⟩
       try simp only [hd18, hd23] at hd38
       replace hs34 := hs33.callF hs34
       refine ⟨_, rfl, ?_⟩
       replace hs34 := St.back [_, _, _] hs34
       refine WL.nil ⟨(((hs34.d1.rm L1_36).rm L1_21).rm L1_16), ?_⟩
       refine WH.o1 6 rfl ?_
       refine WL.st tbk hs34 0 rfl rfl (fun _ hs39 => ?_)
       refine WL.nil ⟨(((hs39.d1.rm L1_36).rm L1_21).rm L1_16), ?_⟩
       refine WH.dn ?_
       replace hs39 := ((hs39.rm L1_21).rm L1_16)
       exact ⟨rfl, b32, _, _, ((((hs39.fb b2).fb b4).fr L1_36).fb b32), ⟨r35, rfl, ho37, by first | exact hd38 | (rw [hd38]; simp only [hd18, hd23, hd38])⟩, ⟨rfl, sbF rfl⟩⟩
     ·refine WL.al hs14 Tryz.zeroValue33 rfl rfl (fun b40 _ hs41 => ?_)
      refine WL.nil ⟨(hs41.d1.rm L1_16), ?_⟩
      refine WH.o1 3 rfl ?_
      refine WL.cl Tryz.call42 rfl (c_laws_toAct aA _ (okActR.st0 f_aA hs41)) ?_
      rintro _ whs42 ⟨r43, L1_44, rfl, hs42, ho45, hd46⟩
      try simp only [hd18] at hd46
      replace hs42 := hs41.callF hs42
      refine ⟨_, rfl, ?_⟩
      replace hs42 := St.back [_, _, _] hs42
      refine WL.nil ⟨((hs42.d1.rm L1_44).rm L1_16), ?_⟩
      refine WH.o1 4 rfl ?_
      refine WL.cl Tryz.call41 rfl (c_spec_ScrAct r15 r43 _ (ownScrR.ok (B := 549755813888) ho17 (hs42.ow L1_16) (by rw [hd18]; assumption)) (ownActR.ok (B := 549755813888) ho45 (hs42.ow L1_44) (by rw [hd46]; assumption)) ?_) ?_
      · first | (first | assumption | rfl | omega) | (first | assumption | omega | (simp only [hd18, hd46, endAct, endGrid, endScr, endTerm, endVp]; first | done | assumption | omega))
      rintro _ whs47 ⟨r48, L1_49, rfl, hs47, ho50, hd51⟩
      try simp only [hd18, hd46] at hd51
      replace hs47 := hs42.callF hs47
      refine ⟨_, rfl, ?_⟩
      replace hs47 := St.back [_, _, _] hs47
      refine WL.nil ⟨(((hs47.d1.rm L1_49).rm L1_44).rm L1_16), ?_⟩
      refine WH.o1 6 rfl ?_
      refine WL.st tbk hs47 0 rfl rfl (fun _ hs52 => ?_)
      refine WL.nil ⟨(((hs52.d1.rm L1_49).rm L1_44).rm L1_16), ?_⟩
      refine WH.dn ?_
      replace hs52 := ((hs52.rm L1_44).rm L1_16)
      exact ⟨rfl, b40, _, _, ((((hs52.fb b2).fb b4).fr L1_49).fb b40), ⟨r48, rfl, ho50, by first | exact hd51 | (rw [hd51]; simp only [hd18, hd46, hd51])⟩, ⟨rfl, sbF rfl⟩⟩
    ·refine WL.al hs13 Tryz.zeroValue33 rfl rfl (fun b53 _ hs54 => ?_)
     refine WL.nil ⟨hs54.d1, ?_⟩
     refine WH.o1 1 rfl ?_
     refine WL.cl Tryz.call21 rfl (c_laws_toScr aS _ (okScrR.st0 f_aS hs54)) ?_
     rintro _ whs55 ⟨r56, L1_57, rfl, hs55, ho58, hd59⟩
     replace hs55 := hs54.callF hs55
     refine ⟨_, rfl, ?_⟩
     replace hs55 := St.back [_, _, _] hs55
     refine WL.nil ⟨(hs55.d1.rm L1_57), ?_⟩
     refine WH.o1 3 rfl ?_
     refine WL.cl Tryz.call42 rfl (c_laws_toAct aA _ (okActR.st0 f_aA hs55)) ?_
     rintro _ whs60 ⟨r61, L1_62, rfl, hs60, ho63, hd64⟩
     try simp only [hd59] at hd64
     replace hs60 := hs55.callF hs60
     refine ⟨_, rfl, ?_⟩
     replace hs60 := St.back [_, _, _] hs60
     refine WL.nil ⟨((hs60.d1.rm L1_62).rm L1_57), ?_⟩
     refine WH.o1 4 rfl ?_
     refine WL.cl Tryz.call41 rfl (c_spec_ScrAct r56 r61 _ (ownScrR.ok (B := 549755813888) ho58 (hs60.ow L1_57) (by rw [hd59]; assumption)) (ownActR.ok (B := 549755813888) ho63 (hs60.ow L1_62) (by rw [hd64]; assumption)) ?_) ?_
     · first | (first | assumption | rfl | omega) | (first | assumption | omega | (simp only [hd59, hd64, endAct, endGrid, endScr, endTerm, endVp]; first | done | assumption | omega))
     rintro _ whs65 ⟨r66, L1_67, rfl, hs65, ho68, hd69⟩
     try simp only [hd59, hd64] at hd69
     replace hs65 := hs60.callF hs65
     refine ⟨_, rfl, ?_⟩
     replace hs65 := St.back [_, _, _] hs65
     refine WL.nil ⟨(((hs65.d1.rm L1_67).rm L1_62).rm L1_57), ?_⟩
     refine WH.o1 6 rfl ?_
     refine WL.st tbk hs65 0 rfl rfl (fun _ hs70 => ?_)
     refine WL.nil ⟨(((hs70.d1.rm L1_67).rm L1_62).rm L1_57), ?_⟩
     refine WH.dn ?_
     replace hs70 := ((hs70.rm L1_62).rm L1_57)
     exact ⟨rfl, b53, _, _, ((((hs70.fb b2).fb b4).fr L1_67).fb b53), ⟨r66, rfl, ho68, by first | exact hd69 | (rw [hd69]; simp only [hd59, hd64, hd69])⟩, ⟨rfl, sbF rfl⟩⟩
   ·rintro b71 _ L72 _ ⟨r73, rfl, ho74, hd75⟩ hs76 _ hf77
    have hs78 := (((hs76.fb b2).fb b4).fb b71)
    refine hK12 _ _ ?_
    refine WC.sub _ hf77 ?_
    refine WC.sr ?_
    refine WL.r 1 hs78 [2] rfl ?_
    refine WL.cl Tryz.call21 rfl (c_laws_toScr aS _ (okScrR.st0 f_aS hs78)) ?_
    rintro _ whs79 ⟨r80, L1_81, rfl, hs79, ho82, hd83⟩
    try simp only [hd75] at hd83
    replace hs79 := hs78.callF hs79
    refine ⟨_, rfl, ?_⟩
    replace hs79 := St.back [_, _, _] hs79
    have el0 := endScr_le 1 r80
    rw [hd83] at el0
    have eg0 := endScr_ge 1 r80
    have eb0 : endScr 1 r80 ≤ 549755813888 := by omega
    have en0_Back : r80.Back.xs.length ≤ 549755813888 := by have h1 := tots_len totRow (r80.Back.xs.map RowR.dat); rw [List.length_map] at h1; have h2 : totScr r80.dat ≤ 1048576 := (by rw [hd83]; exact hb_aS); simp only [GridR.dat, ScrR.dat, totGrid, totScr] at h2; omega
    refine WL.al hs79 Tryz.zeroValue33 rfl rfl (fun b84 _ hs85 => ?_)
    refine WL.st tbk hs85 0 rfl rfl (fun _ hs86 => ?_)
    refine WL.nil ?_
    refine WC.sr ?_
    refine WL.r 1 hs86 [2] rfl ?_
    refine WL.cl Tryz.call42 rfl (c_laws_toAct aA _ (okActR.st0 f_aA hs86)) ?_
    rintro _ whs87 ⟨r88, L1_89, rfl, hs87, ho90, hd91⟩
    try simp only [hd75, hd83] at hd91
    replace hs87 := hs86.callF hs87
    refine ⟨_, rfl, ?_⟩
    replace hs87 := St.back [_, _, _, _] hs87
    have el1 := endAct_le (endScr 1 r80) r88
    rw [hd91] at el1
    have eg1 := endAct_ge (endScr 1 r80) r88
    have eb1 : endAct (endScr 1 r80) r88 ≤ 549755813888 := by omega
    refine WL.al hs87 Tryz.zeroValue59 rfl rfl (fun b92 _ hs93 => ?_)
    refine WL.st tbk hs93 0 rfl rfl (fun _ hs94 => ?_)
    refine WL.nil ?_
    refine WC.sr ?_
    refine WL.r 2 hs94 [1, 0] rfl ?_
    refine WL.cl Tryz.call28 rfl (c_impl_ScrAct r80 r88 _ (ownScrR.ok (B := 549755813888) ho82 (hs94.ow L1_81) (by rw [hd83]; assumption)) (ownActR.ok (B := 549755813888) ho90 (hs94.ow L1_89) (by rw [hd91]; assumption)) ?_) ?_
    · first | (first | assumption | rfl | omega) | (first | assumption | omega | (simp only [hd75, hd83, hd91, endAct, endGrid, endScr, endTerm, endVp]; first | done | assumption | omega))
    rintro _ whs95 ⟨r96, L1_97, rfl, hs95, ho98, hd99⟩
    try simp only [hd75, hd83, hd91] at hd99
    replace hs95 := hs94.callF hs95
    refine ⟨_, rfl, ?_⟩
    replace hs95 := St.back [_, _, _, _, _] hs95
    have el2 := endScr_le 1 r96
    rw [hd99] at el2
    have eg2 := endScr_ge 1 r96
    have eb2 : endScr 1 r96 ≤ 549755813888 := by omega
    have en2_Back : r96.Back.xs.length ≤ 549755813888 := by have h1 := tots_len totRow (r96.Back.xs.map RowR.dat); rw [List.length_map] at h1; have h2 : totScr r96.dat ≤ 20220 := (by rw [hd99]; exact hT); simp only [GridR.dat, ScrR.dat, totGrid, totScr] at h2; omega
    refine WL.al hs95 Tryz.zeroValue33 rfl rfl (fun b100 _ hs101 => ?_)
    refine WL.st tbk hs101 0 rfl rfl (fun _ hs102 => ?_)
    refine WL.nil ?_
    refine WC.seq (fun K103 hK103 => ?_)
    refine WC.sr ?_
    refine WL.r 2 hs102 [0, 3] rfl ?_
    refine WL.cl Tryz.call23 rfl (c_laws_eqScr r96 r73 _ (ownScrR.ok (B := 549755813888) ho98 (hs102.ow L1_97) (by rw [hd99]; assumption)) (ownScrR.ok (B := 549755813888) ho74 (hs102.ow L72) (by rw [hd75]; assumption)) ?_) ?_
    · first | (first | assumption | rfl | omega) | (first | assumption | omega | (simp only [hd75, hd83, hd91, hd99, endAct, endGrid, endScr, endTerm, endVp]; first | done | assumption | omega))
    rintro _ whs104 ⟨rfl, hs104⟩
    replace hs104 := hs102.call0 hs104
    refine ⟨_, rfl, ?_⟩
    refine WL.r 1 hs104 [] rfl ?_
    refine WL.nil ?_
    refine WC.condF rfl (by first | (simp; done) | (simp; omega) | (simp [hd75, hd83, hd91, hd99]; done) | (simp [hd75, hd83, hd91, hd99]; omega) | (simp only [endAct, endGrid, endScr, endTerm, endVp]; simp; omega)) ?_
    refine WC.skip ?_
    refine hK103 _ _ ?_
    refine WC.seq (fun K106 hK106 => ?_)
    refine WC.seq (fun K107 hK107 => ?_)
    refine WC.rH hs104 hs104 (fun _ hs108 => ?_)
    refine WH.rn [0, 1] hs108 [2, 5] rfl rfl ?_
    refine WH.o1 2 rfl ?_
    refine WL.cl Tryz.call21 rfl (c_laws_toScr aS _ (okScrR.st0 f_aS hs108)) ?_
    rintro _ whs109 ⟨r110, L1_111, rfl, hs109, ho112, hd113⟩
    try simp only [hd75, hd83, hd91, hd99] at hd113
    replace hs109 := hs108.callF hs109
    refine ⟨_, rfl, ?_⟩
    replace hs109 := St.back [_, _, _, _, _, _] hs109
    refine WL.nil ⟨(hs109.rm L1_111), ?_⟩
    refine WH.o1 3 rfl ?_
    refine WL.cl Tryz.call23 rfl (c_laws_eqScr r80 r110 _ (ownScrR.ok (B := 549755813888) ho82 (hs109.ow L1_81) (by rw [hd83]; assumption)) (ownScrR.ok (B := 549755813888) ho112 (hs109.ow L1_111) (by rw [hd113]; assumption)) ?_) ?_
    · first | (first | assumption | rfl | omega) | (first | assumption | omega | (simp only [hd75, hd83, hd91, hd99, hd113, endAct, endGrid, endScr, endTerm, endVp]; first | done | assumption | omega))
    rintro _ whs114 ⟨rfl, hs114⟩
    replace hs114 := hs109.call0 hs114
    refine ⟨_, rfl, ?_⟩
    refine WL.nil ⟨(hs114.rm L1_111), ?_⟩
    refine WH.rn [4] (hs114.rm L1_111) [] rfl rfl ?_
    refine WH.dn ?_
    refine hK107 _ _ ?_
    refine WC.condF rfl (by first | (simp; done) | (simp; omega) | (simp [hd75, hd83, hd91, hd99, hd113]; done) | (simp [hd75, hd83, hd91, hd99, hd113]; omega) | (simp only [endAct, endGrid, endScr, endTerm, endVp]; simp; omega)) ?_
    refine WC.skip ?_
    refine hK106 _ _ ?_
    refine WC.seq (fun K116 hK116 => ?_)
    refine WC.seq (fun K117 hK117 => ?_)
    refine WC.rH hs114 hs114 (fun _ hs118 => ?_)
    refine WH.rn [0, 1] hs118 [1, 4] rfl rfl ?_
    refine WH.o1 2 rfl ?_
    refine WL.cl Tryz.call42 rfl (c_laws_toAct aA _ (okActR.st0 f_aA hs118)) ?_
    rintro _ whs119 ⟨r120, L1_121, rfl, hs119, ho122, hd123⟩
    try simp only [hd75, hd83, hd91, hd99, hd113] at hd123
    replace hs119 := hs118.callF hs119
    refine ⟨_, rfl, ?_⟩
    replace hs119 := St.back [_, _, _, _, _, _] hs119
    refine WL.nil ⟨(hs119.rm L1_121), ?_⟩
    refine WH.o1 3 rfl ?_
    refine WL.cl Tryz.call43 rfl (c_laws_eqAct r88 r120 _ (ownActR.ok (B := 549755813888) ho90 (hs119.ow L1_89) (by rw [hd91]; assumption)) (ownActR.ok (B := 549755813888) ho122 (hs119.ow L1_121) (by rw [hd123]; assumption)) ?_) ?_
    · first | (first | assumption | rfl | omega) | (first | assumption | omega | (simp only [hd75, hd83, hd91, hd99, hd113, hd123, endAct, endGrid, endScr, endTerm, endVp]; first | done | assumption | omega))
    rintro _ whs124 ⟨rfl, hs124⟩
    replace hs124 := hs119.call0 hs124
    refine ⟨_, rfl, ?_⟩
    refine WL.nil ⟨(hs124.rm L1_121), ?_⟩
    refine WH.rn [4] (hs124.rm L1_121) [] rfl rfl ?_
    refine WH.dn ?_
    refine hK117 _ _ ?_
    refine WC.condF rfl (by first | (simp; done) | (simp; omega) | (simp [hd75, hd83, hd91, hd99, hd113, hd123]; done) | (simp [hd75, hd83, hd91, hd99, hd113, hd123]; omega) | (simp only [endAct, endGrid, endScr, endTerm, endVp]; simp; omega)) ?_
    refine WC.skip ?_
    refine hK116 _ _ ?_
    refine WC.r1 hs124 [] rfl ?_
    refine WC.sr ?_
    refine WL.r 2 hs124 [2] rfl ?_
    refine WL.cl Tryz.call24 rfl (c_laws_markScr r80 _ _ _ ho82 (hs124.ow L1_81) (St.nodupL (hs124.fr L1_81)) ?_ ?_ ?_) ?_
    · first | (first | assumption | omega) | (first | assumption | omega | (simp only [hd75, hd83, hd91, hd99, hd113, hd123, endAct, endGrid, endScr, endTerm, endVp]; first | done | assumption | omega))
    · first | (first | assumption | omega | (simp only [endGrid, endScr]; omega)) | (first | assumption | omega | (simp only [hd75, hd83, hd91, hd99, hd113, hd123, endAct, endGrid, endScr, endTerm, endVp]; first | done | assumption | omega))
    · first | (first | assumption | omega) | (first | assumption | omega | (simp only [hd75, hd83, hd91, hd99, hd113, hd123, endAct, endGrid, endScr, endTerm, endVp]; first | done | assumption | omega))
    rintro _ whs126 ⟨L1_127, rfl, hs126, ho128⟩
    replace hs126 := St.lend (hs124.fr L1_81) hs126
    refine ⟨_, rfl, ?_⟩
    replace hs126 := St.back [_, _, _, _, _, _] hs126
    refine WL.r 1 hs126 [] rfl ?_
    refine WL.nil ?_
    refine WC.sr ?_
    refine WL.r 2 hs126 [1] rfl ?_
    refine WL.cl Tryz.call44 rfl (c_laws_markAct r88 _ _ _ ho90 (hs126.ow L1_89) (St.nodupL (hs126.fr L1_89)) ?_ ?_) ?_
    · first | (first | assumption | omega) | (first | assumption | omega | (simp only [hd75, hd83, hd91, hd99, hd113, hd123, endAct, endGrid, endScr, endTerm, endVp]; first | done | assumption | omega))
    · first | (first | assumption | omega | (simp only [endAct]; omega)) | (first | assumption | omega | (simp only [hd75, hd83, hd91, hd99, hd113, hd123, endAct, endGrid, endScr, endTerm, endVp]; first | done | assumption | omega))
    rintro _ whs129 ⟨L1_130, rfl, hs129, ho131⟩
    replace hs129 := St.lend (hs126.fr L1_89) hs129
    refine ⟨_, rfl, ?_⟩
    replace hs129 := St.back [_, _, _, _, _, _] hs129
    refine WL.r 1 hs129 [] rfl ?_
    refine WL.nil ?_
    refine WC.seq (fun K132 hK132 => ?_)
    refine WC.sr ?_
    refine WL.r 3 hs129 [] rfl ?_
    apply WL.gO 4 Acts.nil hs129 rfl
    ·intro g133 J134
     have qg133 := g133
     try simp only [bf, within_iff, within_not] at qg133
     refine WL.runA tbk 2 (Acts.nil.cons (j := 2) rfl g133) hs129 [0, 3] rfl ⟨rfl, rfl, trivial⟩ ?_
     refine WL.call (wantF rfl g133) rfl rfl (Run.call Tryz.call23 rfl rfl rfl) (c_laws_eqScr r96 r73 _ (ownScrR.ok (B := 549755813888) ho98 (hs129.ow L1_97) (by rw [hd99]; assumption)) (ownScrR.ok (B := 549755813888) ho74 (hs129.ow L72) (by rw [hd75]; assumption)) ?_) ?_
     · first | (first | assumption | rfl | omega) | (first | assumption | omega | (simp only [hd75, hd83, hd91, hd99, hd113, hd123, endAct, endGrid, endScr, endTerm, endVp]; first | done | assumption | omega))
     rintro _ whs135 ⟨rfl, hs135⟩
     replace hs135 := hs129.call0 hs135
     refine ⟨_, rfl, ?_⟩
     refine WL.runA tbk 1 (Acts.nil.cons (j := 2) rfl g133) hs135 [] rfl trivial ?_
     exact WL.eO 4 Acts.nil J134 hs135 g133 rfl rfl
    ·intro _ hs136
     refine WL.nil ?_
     refine WC.condF rfl (by first | (simp; done) | (simp; omega) | (simp [hd75, hd83, hd91, hd99, hd113, hd123]; done) | (simp [hd75, hd83, hd91, hd99, hd113, hd123]; omega) | (simp only [endAct, endGrid, endScr, endTerm, endVp]; simp; omega)) ?_
     refine WC.skip ?_
     refine hK132 _ _ ?_
     refine WC.r1 hs136 [] rfl ?_
     refine WC.sr ?_
     refine WL.r 2 hs136 [0] rfl ?_
     refine WL.cl Tryz.call24 rfl (c_laws_markScr r96 _ _ _ ho98 (hs136.ow L1_97) (St.nodupL (hs136.fr L1_97)) ?_ ?_ ?_) ?_
     · first | (first | assumption | omega) | (first | assumption | omega | (simp only [hd75, hd83, hd91, hd99, hd113, hd123, endAct, endGrid, endScr, endTerm, endVp]; first | done | assumption | omega))
     · first | (first | assumption | omega | (simp only [endGrid, endScr]; omega)) | (first | assumption | omega | (simp only [hd75, hd83, hd91, hd99, hd113, hd123, endAct, endGrid, endScr, endTerm, endVp]; first | done | assumption | omega))
     · first | (first | assumption | omega) | (first | assumption | omega | (simp only [hd75, hd83, hd91, hd99, hd113, hd123, endAct, endGrid, endScr, endTerm, endVp]; first | done | assumption | omega))
     rintro _ whs138 ⟨L1_139, rfl, hs138, ho140⟩
     replace hs138 := St.lend (hs136.fr L1_97) hs138
     refine ⟨_, rfl, ?_⟩
     replace hs138 := St.back [_, _, _, _, _, _] hs138
     refine WL.r 1 hs138 [] rfl ?_
     refine WL.nil ?_
     refine WC.r1 hs138 [] rfl ?_
     refine WC.sr ?_
     refine WL.r 2 hs138 [0] rfl ?_
     refine WL.cl Tryz.call25 rfl (c_laws_heldScr _ _ _ (ownScrR.ok (B := 549755813888) ho140 (hs138.ow L1_139) (markScr_sm (by rw [hd99]; assumption))) ?_ ?_) ?_
     · first | (first | assumption | omega) | (first | assumption | omega | (simp only [hd75, hd83, hd91, hd99, hd113, hd123, endAct, endGrid, endScr, endTerm, endVp]; first | done | assumption | omega))
     · first | (first | assumption | omega | (simp only [endGrid, endScr]; omega)) | (first | assumption | omega | (simp only [hd75, hd83, hd91, hd99, hd113, hd123, endAct, endGrid, endScr, endTerm, endVp]; first | done | assumption | omega))
     rintro _ whs141 ⟨rfl, hs141⟩
     replace hs141 := hs138.call0 hs141
     refine ⟨_, rfl, ?_⟩
     refine WL.r 1 hs141 [] rfl ?_
     refine WL.nil ?_
     refine WC.seq (fun K142 hK142 => ?_)
     refine WC.r1 hs141 [] rfl ?_
     refine WC.condF rfl (by first | (simp; done) | (simp; omega) | (simp [hd75, hd83, hd91, hd99, hd113, hd123]; done) | (simp [hd75, hd83, hd91, hd99, hd113, hd123]; omega) | (simp only [endAct, endGrid, endScr, endTerm, endVp]; simp; omega)) ?_
     refine WC.skip ?_
     refine hK142 _ _ ?_
     refine WC.seq (fun K144 hK144 => ?_)
     refine WC.r1 hs141 [] rfl ?_
     refine WC.condF rfl (by first | (simp; done) | (simp; omega) | (simp [hd75, hd83, hd91, hd99, hd113, hd123]; done) | (simp [hd75, hd83, hd91, hd99, hd113, hd123]; omega) | (simp only [endAct, endGrid, endScr, endTerm, endVp]; simp; omega)) ?_
     refine WC.skip ?_
     refine hK144 _ _ ?_
     refine WC.seq (fun K146 hK146 => ?_)
     refine WC.jR 13 [0, 1, 2, 3, 4, 5, 6, 7, 8, 9, 10, 11, 12, 14, 15, 16, 17, 18, 19, 20, 21, 22, 23, 29, 30, 31, 32, 33, 34, 35, 36, 37, 38, 39, 40, 41, 42, 43, 44, 45, 46, 47, 48, 49, 50, 51, 52, 53, 54, 55, 56, 57, 58, 63, 64, 65, 66, 67, 68, 69, 70, 71, 72, 73, 74] rfl hs141 (fun o_ L_ => ∃ r : ScrR, o_ = Obj.cells (List.toArray (cScr r)) 33 (0, 0) ∧ ownScrR r L_ ∧ r.dat = scrActRes aS.dat aA.dat) ?_ ?_
     ·refine WC.rH hs141 hs141 (fun _ hs147 => ?_)
      refine WH.rn [0, 2] hs147 [5, 4] rfl rfl ?_
      refine WH.all [1, 5] (by kernel_rfl) rfl (WHs.cons (i := 1) rfl ?_ (WHs.cons (i := 5) rfl ?_ WHs.nil))
      ·refine WL.cl Tryz.call21 rfl (c_laws_toScr aS _ (okScrR.st0 f_aS hs147)) ?_
       rintro _ whs148 ⟨r149, L1_150, rfl, hs148, ho151, hd152⟩
       try simp only [hd75, hd83, hd91, hd99, hd113, hd123] at hd152
       replace hs148 := hs147.callF hs148
       refine ⟨_, rfl, ?_⟩
       replace hs148 := St.back [_, _, _, _, _, _] hs148
       refine WL.nil ⟨(hs148.rm L1_150), ?_⟩
       refine WH.all [3, 5] (by kernel_rfl) rfl (WHs.cons (i := 3) rfl ?_ (WHs.cons (i := 5) rfl ?_ WHs.nil))
       ·refine WL.cl Tryz.call42 rfl (c_laws_toAct aA _ (okActR.st0 f_aA hs148)) ?_
        rintro _ whs153 ⟨r154, L1_155, rfl, hs153, ho156, hd157⟩
        try simp only [hd75, hd83, hd91, hd99, hd113, hd123, hd152] at hd157
        replace hs153 := hs148.callF hs153
        refine ⟨_, rfl, ?_⟩
        replace hs153 := St.back [_, _, _, _, _, _] hs153
        refine WL.nil ⟨((hs153.rm L1_155).rm L1_150), ?_⟩
        refine WH.all [4, 5] (by kernel_rfl) rfl (WHs.cons (i := 4) rfl ?_ (WHs.cons (i := 5) rfl ?_ WHs.nil))
        ·refine WL.cl Tryz.call28 rfl (c_impl_ScrAct r149 r154 _ (ownScrR.ok (B := 549755813888) ho151 (hs153.ow L1_150) (by rw [hd152]; assumption)) (ownActR.ok (B := 549755813888) ho156 (hs153.ow L1_155) (by rw [hd157]; assumption)) ?_) ?_
         · first | (first | assumption | rfl | omega) | (first | assumption | omega | (simp only [hd75, hd83, hd91, hd99, hd113, hd123, hd152, hd157, endAct, endGrid, endScr, endTerm, endVp]; first | done | assumption | omega))
         rintro _ whs158 ⟨r159, L1_160, rfl, hs158, ho161, hd162⟩
         try simp only [hd75, hd83, hd91, hd99, hd113, hd123, hd152, hd157] at hd162
         replace hs158 := hs153.callF hs158
         refine ⟨_, rfl, ?_⟩
         replace hs158 := St.back [_, _, _, _, _, _] hs158
         refine WL.nil ⟨(((hs158.rm L1_160).rm L1_155).rm L1_150), ?_⟩
         refine WH.o1 5 rfl ?_
         refine WL.al hs158 Tryz.zeroValue33 rfl rfl (fun b163 _ hs164 => ?_)
         refine WL.nil ⟨(((hs164.d1.rm L1_160).rm L1_155).rm L1_150), ?_⟩
         refine WH.o1 6 rfl ?_
         refine WL.st tbk hs164 0 rfl rfl (fun _ hs165 => ?_)
         refine WL.nil ⟨(((hs165.d1.rm L1_160).rm L1_155).rm L1_150), ?_⟩
         refine WH.dn ?_
         replace hs165 := ((hs165.rm L1_155).rm L1_150)
         exact ⟨rfl, b163, _, _, ((((((((((((((hs165.fr L72).fr L1_111).fr L1_121).fr L1_127).fr L1_130).fr L1_139).fb b2).fb b4).fb b71).fb b84).fb b92).fb b100).fr L1_160).fb b163), ⟨r159, rfl, ho161, by first | exact hd162 | (rw [hd162]; simp only [hd75, hd83, hd91, hd99, hd113, hd123, hd152, hd157, hd162])⟩, ⟨rfl, sbF rfl⟩⟩
        ·refine WL.al hs153 Tryz.zeroValue33 rfl rfl (fun b166 _ hs167 => ?_)
         refine WL.nil ⟨((hs167.d1.rm L1_155).rm L1_150), ?_⟩
         refine WH.o1 4 rfl ?_
         refine WL.cl Tryz.call28 rfl (c_impl_ScrAct r149 r154 _ (ownScrR.ok (B := 549755813888) ho151 (hs167.ow L1_150) (by rw [hd152]; assumption)) (ownActR.ok (B := 549755813888) ho156 (hs167.ow L1_155) (by rw [hd157]; assumption)) ?_) ?_
         · first | (first | assumption | rfl | omega) | (first | assumption | omega | (simp only [hd75, hd83, hd91, hd99, hd113, hd123, hd152, hd157, endAct, endGrid, endScr, endTerm, endVp]; first | done | assumption | omega))
         rintro _ whs168 ⟨r169, L1_170, rfl, hs168, ho171, hd172⟩
         try simp only [hd75, hd83, hd91, hd99, hd113, hd123, hd152, hd157] at hd172
         replace hs168 := hs167.callF hs168
         refine ⟨_, rfl, ?_⟩
         replace hs168 := St.back [_, _, _, _, _, _, _] hs168
         refine WL.nil ⟨(((hs168.d1.rm L1_170).rm L1_155).rm L1_150), ?_⟩
         refine WH.o1 6 rfl ?_
         refine WL.st tbk hs168 0 rfl rfl (fun _ hs173 => ?_)
         refine WL.nil ⟨(((hs173.d1.rm L1_170).rm L1_155).rm L1_150), ?_⟩
         refine WH.dn ?_
         replace hs173 := ((hs173.rm L1_155).rm L1_150)
         exact ⟨rfl, b166, _, _, ((((((((((((((hs173.fr L72).fr L1_111).fr L1_121).fr L1_127).fr L1_130).fr L1_139).fb b2).fb b4).fb b71).fb b84).fb b92).fb b100).fr L1_170).fb b166), ⟨r169, rfl, ho171, by first | exact hd172 | (rw [hd172]; simp only [hd75, hd83, hd91, hd99, hd113, hd123, hd152, hd157, hd172])⟩, ⟨rfl, sbF rfl⟩⟩
       ·refine WL.al hs148 Tryz.zeroValue33 rfl rfl (fun b174 _ hs175 => ?_)
        refine WL.nil ⟨(hs175.d1.rm L1_150), ?_⟩
        refine WH.o1 3 rfl ?_
        refine WL.cl Tryz.call42 rfl (c_laws_toAct aA _ (okActR.st0 f_aA hs175)) ?_
        rintro _ whs176 ⟨r177, L1_178, rfl, hs176, ho179, hd180⟩
        try simp only [hd75, hd83, hd91, hd99, hd113, hd123, hd152] at hd180
        replace hs176 := hs175.callF hs176
        refine ⟨_, rfl, ?_⟩
        replace hs176 := St.back [_, _, _, _, _, _, _] hs176
        refine WL.nil ⟨((hs176.d1.rm L1_178).rm L1_150), ?_⟩
        refine WH.o1 4 rfl ?_
        refine WL.cl Tryz.call28 rfl (c_impl_ScrAct r149 r177 _ (ownScrR.ok (B := 549755813888) ho151 (hs176.ow L1_150) (by rw [hd152]; assumption)) (ownActR.ok (B := 549755813888) ho179 (hs176.ow L1_178) (by rw [hd180]; assumption)) ?_) ?_
        · first | (first | assumption | rfl | omega) | (first | assumption | omega | (simp only [hd75, hd83, hd91, hd99, hd113, hd123, hd152, hd180, endAct, endGrid, endScr, endTerm, endVp]; first | done | assumption | omega))
        rintro _ whs181 ⟨r182, L1_183, rfl, hs181, ho184, hd185⟩
        try simp only [hd75, hd83, hd91, hd99, hd113, hd123, hd152, hd180] at hd185
        replace hs181 := hs176.callF hs181
        refine ⟨_, rfl, ?_⟩
        replace hs181 := St.back [_, _, _, _, _, _, _] hs181
        refine WL.nil ⟨(((hs181.d1.rm L1_183).rm L1_178).rm L1_150), ?_⟩
        refine WH.o1 6 rfl ?_
        refine WL.st tbk hs181 0 rfl rfl (fun _ hs186 => ?_)
        refine WL.nil ⟨(((hs186.d1.rm L1_183).rm L1_178).rm L1_150), ?_⟩
        refine WH.dn ?_
        replace hs186 := ((hs186.rm L1_178).rm L1_150)
        exact ⟨rfl, b174, _, _, ((((((((((((((hs186.fr L72).fr L1_111).fr L1_121).fr L1_127).fr L1_130).fr L1_139).fb b2).fb b4).fb b71).fb b84).fb b92).fb b100).fr L1_183).fb b174), ⟨r182, rfl, ho184, by first | exact hd185 | (rw [hd185]; simp only [hd75, hd83, hd91, hd99, hd113, hd123, hd152, hd180, hd185])⟩, ⟨rfl, sbF rfl⟩⟩
      ·refine WL.al hs147 Tryz.zeroValue33 rfl rfl (fun b187 _ hs188 => ?_)
       refine WL.nil ⟨hs188.d1, ?_⟩
       refine WH.o1 1 rfl ?_
       refine WL.cl Tryz.call21 rfl (c_laws_toScr aS _ (okScrR.st0 f_aS hs188)) ?_
       rintro _ whs189 ⟨r190, L1_191, rfl, hs189, ho192, hd193⟩
       try simp only [hd75, hd83, hd91, hd99, hd113, hd123] at hd193
       replace hs189 := hs188.callF hs189
       refine ⟨_, rfl, ?_⟩
       replace hs189 := St.back [_, _, _, _, _, _, _] hs189
       refine WL.nil ⟨(hs189.d1.rm L1_191), ?_⟩
       refine WH.o1 3 rfl ?_
       refine WL.cl Tryz.call42 rfl (c_laws_toAct aA _ (okActR.st0 f_aA hs189)) ?_
       rintro _ whs194 ⟨r195, L1_196, rfl, hs194, ho197, hd198⟩
       try simp only [hd75, hd83, hd91, hd99, hd113, hd123, hd193] at hd198
       replace hs194 := hs189.callF hs194
       refine ⟨_, rfl, ?_⟩
       replace hs194 := St.back [_, _, _, _, _, _, _] hs194
       refine WL.nil ⟨((hs194.d1.rm L1_196).rm L1_191), ?_⟩
       refine WH.o1 4 rfl ?_
       refine WL.cl Tryz.call28 rfl (c_impl_ScrAct r190 r195 _ (ownScrR.ok (B := 549755813888) ho192 (hs194.ow L1_191) (by rw [hd193]; assumption)) (ownActR.ok (B := 549755813888) ho197 (hs194.ow L1_196) (by rw [hd198]; assumption)) ?_) ?_
       · first | (first | assumption | rfl | omega) | (first | assumption | omega | (simp only [hd75, hd83, hd91, hd99, hd113, hd123, hd193, hd198, endAct, endGrid, endScr, endTerm, endVp]; first | done | assumption | omega))
       rintro _ whs199 ⟨r200, L1_201, rfl, hs199, ho202, hd203⟩
       try simp only [hd75, hd83, hd91, hd99, hd113, hd123, hd193, hd198] at hd203
       replace hs199 := hs194.callF hs199
       refine ⟨_, rfl, ?_⟩
       replace hs199 := St.back [_, _, _, _, _, _, _] hs199
       refine WL.nil ⟨(((hs199.d1.rm L1_201).rm L1_196).rm L1_191), ?_⟩
       refine WH.o1 6 rfl ?_
       refine WL.st tbk hs199 0 rfl rfl (fun _ hs204 => ?_)
       refine WL.nil ⟨(((hs204.d1.rm L1_201).rm L1_196).rm L1_191), ?_⟩
       refine WH.dn ?_
       replace hs204 := ((hs204.rm L1_196).rm L1_191)
       exact ⟨rfl, b187, _, _, ((((((((((((((hs204.fr L72).fr L1_111).fr L1_121).fr L1_127).fr L1_130).fr L1_139).fb b2).fb b4).fb b71).fb b84).fb b92).fb b100).fr L1_201).fb b187), ⟨r200, rfl, ho202, by first | exact hd203 | (rw [hd203]; simp only [hd75, hd83, hd91, hd99, hd113, hd123, hd193, hd198, hd203])⟩, ⟨rfl, sbF rfl⟩⟩
     ·rintro b205 _ L206 _ ⟨r207, rfl, ho208, hd209⟩ hs210 _ hf211
      have hs212 := (((((((hs210.fb b2).fb b4).fb b71).fb b84).fb b92).fb b100).fb b205)
      refine hK146 _ _ ?_
      refine WC.sub _ hf211 ?_
      refine WC.seq (fun K213 hK213 => ?_)
      refine WC.sr ?_
      refine WL.r 2 hs212 [0, 4] rfl ?_
      refine WL.cl Tryz.call23 rfl (c_laws_eqScr r207 r73 _ (ownScrR.ok (B := 549755813888) ho208 (hs212.ow L206) (by rw [hd209]; assumption)) (ownScrR.ok (B := 549755813888) ho74 (hs212.ow L72) (by rw [hd75]; assumption)) ?_) ?_
      · first | (first | assumption | rfl | omega) | (first | assumption | omega | (simp only [hd75, hd83, hd91, hd99, hd113, hd123, hd209, endAct, endGrid, endScr, endTerm, endVp]; first | done | assumption | omega))
      rintro _ whs214 ⟨rfl, hs214⟩
      replace hs214 := hs212.call0 hs214
      refine ⟨_, rfl, ?_⟩
      refine WL.r 1 hs214 [] rfl ?_
      refine WL.nil ?_
      refine WC.condF rfl (by first | (simp; done) | (simp; omega) | (simp [hd75, hd83, hd91, hd99, hd113, hd123, hd209]; done) | (simp [hd75, hd83, hd91, hd99, hd113, hd123, hd209]; omega) | (simp only [endAct, endGrid, endScr, endTerm, endVp]; simp; omega)) ?_
      refine WC.skip ?_
      refine hK213 _ _ ?_
      refine WC.r1 hs214 [] rfl ?_
      refine WC.sr ?_
      refine WL.r 2 hs214 [1] rfl ?_
      refine WL.cl Tryz.call25 rfl (c_laws_heldScr _ _ _ (ownScrR.ok (B := 549755813888) ho140 (hs214.ow L1_139) (markScr_sm (by rw [hd99]; assumption))) ?_ ?_) ?_
      · first | (first | assumption | omega) | (first | assumption | omega | (simp only [hd75, hd83, hd91, hd99, hd113, hd123, hd209, endAct, endGrid, endScr, endTerm, endVp]; first | done | assumption | omega))
      · first | (first | assumption | omega | (simp only [endGrid, endScr]; omega)) | (first | assumption | omega | (simp only [hd75, hd83, hd91, hd99, hd113, hd123, hd209, endAct, endGrid, endScr, endTerm, endVp]; first | done | assumption | omega))
      rintro _ whs216 ⟨rfl, hs216⟩
      replace hs216 := hs214.call0 hs216
      refine ⟨_, rfl, ?_⟩
      refine WL.r 1 hs216 [] rfl ?_
      refine WL.nil ?_
      refine WC.seq (fun K217 hK217 => ?_)
      refine WC.r1 hs216 [] rfl ?_
      refine WC.condF rfl (by first | (simp; done) | (simp; omega) | (simp [hd75, hd83, hd91, hd99, hd113, hd123, hd209]; done) | (simp [hd75, hd83, hd91, hd99, hd113, hd123, hd209]; omega) | (simp only [endAct, endGrid, endScr, endTerm, endVp]; simp; omega)) ?_
      refine WC.skip ?_
      refine hK217 _ _ ?_
      refine WC.seq (fun K219 hK219 => ?_)
      refine WC.r1 hs216 [] rfl ?_
      refine WC.condF rfl (by first | (simp; done) | (simp; omega) | (simp [hd75, hd83, hd91, hd99, hd113, hd123, hd209]; done) | (simp [hd75, hd83, hd91, hd99, hd113, hd123, hd209]; omega) | (simp only [endAct, endGrid, endScr, endTerm, endVp]; simp; omega)) ?_
      refine WC.skip ?_
      refine hK219 _ _ ?_
      refine WC.r1 hs216 [] rfl ?_
      refine WC.ret ?_
      refine retV1 rfl (resV.tmp rfl) ?_
      refine ⟨congrArg Ending.returned ?_, hs216.nil⟩
      rfl
end Go.Proofs.YtjmegoiclgancaaGreat
namespace Go.Proofs.YtjmegoiclgancaaGreat
open Go Go.RowKit Go.ChangeShapes Go.WideShapes Go.ChangeAt Go.Deep
set_option linter.unusedVariables false
set_option linter.unusedSimpArgs false
theorem list_succ {n : Nat} {l : List Value} (h : l.length = n + 1) : ∃ c r, l = c :: r ∧ r.length = n := by
  cases l with
  | nil => simp at h
  | cons c r => exact ⟨c, r, rfl, by simpa using h⟩
theorem list_zero {l : List Value} (h : l.length = 0) : l = [] := List.eq_nil_of_length_eq_zero h
section
variable {H : Type} {enc : TypeId × Value → H} {P : Program} {w : World} {base : Nat} {spare : Nat → Bool} {held : Bool} {fuel : Nat} {t e : TypeId} {cs : List Value} {x : DataW H × List MemPlace}
theorem trod_flds {fs : Array Field} (ht : P.underlying t = some (.struct fs)) (h : DataW.trod enc P w base spare held fuel t cs = some x) :
    cs.length = P.cellsOf t ∧ ∃ n, ∀ (i : Nat) (f : Field), fs.toList[i]? = some f → ∃ y, DataW.trod enc P w base spare held n f.type ((cs.drop f.offset).take (P.cellsOf f.type)) = some y := by
  obtain ⟨xs, n, _, _, hl, hlen, hg⟩ := DataW.trod_struct ht h
  refine ⟨hl, n, fun i f hf => ?_⟩
  have hf' : fs[i]? = some f := by simpa using hf
  have hi : i < xs.length := by rw [hlen]; exact (Array.getElem?_eq_some_iff.1 hf').1
  exact ⟨xs[i], (hg i f hf').trans (List.getElem?_eq_getElem hi)⟩
theorem open_i64 (ht : P.underlying t = some (.int .i64)) (h : DataW.trod enc P w base spare held fuel t cs = some x) : ∃ n, cs = [i64 n] ∧ In64 n := by
  obtain ⟨n, rfl, _, hw⟩ := DataW.trod_int ht h
  refine ⟨n, rfl, ?_⟩
  simp [Lit.wf, IntKind.min, IntKind.max, IntKind.signed, IntKind.bits] at hw
  exact hw
theorem open_bool' (ht : P.underlying t = some .bool) (h : DataW.trod enc P w base spare held fuel t cs = some x) : ∃ b, cs = [.bool b] := by
  obtain ⟨b, rfl, _⟩ := DataW.trod_bool ht h
  exact ⟨b, rfl⟩
theorem open_SlF {α : Type} {F : Enc α} {good : α → Prop} (ht : P.underlying t = some (.slice e)) (hc : P.cellsOf e = F.sz)
    (hE : ∀ n cs' y, DataW.trod enc P w base spare held n e cs' = some y → ∃ d, cs' = F.enc d ∧ good d) (h : DataW.trod enc P w base spare held fuel t cs = some x) :
    ∃ A n c xs, cs = [.slice A n c] ∧ SlF F w A n xs ∧ n ≤ 9223372036854775807 ∧ ∀ d, d ∈ xs → good d := by
  rcases open_slice ht h with ⟨rfl, _⟩ | ⟨a, l, c, m, n, D, Pl, rfl, _, hl, hm, hmm, _, hx⟩
  · exact ⟨none, 0, 0, [], rfl, ⟨rfl, SlR.nil _ _ _⟩, by omega, fun z h => by cases h⟩
  · have hlm : l ≤ m := by rw [hmm]; split <;> omega
    have : Inhabited α := ⟨F.dflt⟩
    have each : ∀ i, i < l → ∃ d : α, good d ∧ ∀ r, r < F.sz → w.cell? (a.add (i * F.sz + r)) = (F.enc d)[r]? := by
      intro i hi
      obtain ⟨cs', h1, h2⟩ := hx i (by omega)
      obtain ⟨d, rfl, hg⟩ := hE _ _ _ h2
      obtain ⟨_, _, h3⟩ := World.cells?_some h1
      refine ⟨d, hg, fun r hr => ?_⟩
      have := h3 r (by rw [hc]; exact hr)
      rw [← this, hc]
      congr 1
      rw [Addr.add_add']
    obtain ⟨d, hd⟩ := choose_lt each
    have hlen : ((List.range l).map d).length = l := by simp
    refine ⟨some a, l, c, (List.range l).map d, rfl, ⟨hlen, ⟨by rw [rows_len, hlen], fun _ => rfl, fun j v hv => ?_⟩⟩, by simp only [maxLen] at hm; omega, fun z hz => ?_⟩
    · have hj := (List.getElem?_eq_some_iff.1 hv).1
      rw [rows_len, hlen] at hj
      have hp := F.pos
      have hi : j / F.sz < l := Nat.div_lt_of_lt_mul (by rw [Nat.mul_comm]; exact hj)
      have hr : j % F.sz < F.sz := Nat.mod_lt _ hp
      have ej : j / F.sz * F.sz + j % F.sz = j := by rw [Nat.mul_comm]; exact Nat.div_add_mod _ _
      have e1 := (hd (j / F.sz) hi).2 (j % F.sz) hr
      rw [ej] at e1
      show w.cell? (a.add j) = some v
      rw [e1, ← hv]
      have e2 := rows_get (F := F) (xs := (List.range l).map d) (k := j / F.sz) (by rw [hlen]; exact hi) hr
      rw [ej] at e2
      rw [e2]
      have e3 : gat F ((List.range l).map d) (j / F.sz) = d (j / F.sz) := by
        have := gat_get (F := F) (xs := (List.range l).map d) (k := j / F.sz) (by rw [hlen]; exact hi)
        rw [List.getElem?_map, List.getElem?_range hi] at this
        exact (Option.some.inj this).symm
      rw [e3]
    · obtain ⟨i, hi, rfl⟩ := List.mem_map.1 hz
      exact (hd i (by simpa using hi)).1
theorem open_e64 (ht : P.underlying t = some (.int .i64)) (h : DataW.trod enc P w base spare held fuel t cs = some x) : ∃ n : Int, cs = encI.enc n ∧ In64 n := open_i64 ht h
theorem open_SlE {α : Type} {F : Enc α} {good : α → Prop} (ht : P.underlying t = some (.slice e)) (hc : P.cellsOf e = F.sz)
    (hE : ∀ n cs' y, DataW.trod enc P w base spare held n e cs' = some y → ∃ d, cs' = F.enc d ∧ good d) (h : DataW.trod enc P w base spare held fuel t cs = some x) :
    ∃ A n c xs, cs = [.slice A n c] ∧ SlF F w A n xs ∧ n ≤ c ∧ n ≤ 9223372036854775807 ∧ ∀ d, d ∈ xs → good d := by
  obtain ⟨A, n, c, xs, e1, f, hn, hg⟩ := open_SlF ht hc hE h
  refine ⟨A, n, c, xs, e1, f, ?_, hn, hg⟩
  rcases open_slice ht h with ⟨e2, _⟩ | ⟨a, l, c', m, n', D, Pl, e2, _, hl, _⟩
  · rw [e1] at e2
    cases e2
    exact Nat.le_refl _
  · rw [e1] at e2
    cases e2
    exact hl
end
end Go.Proofs.YtjmegoiclgancaaGreat
namespace Go.Proofs.YtjmegoiclgancaaGreat
open Go Go.RowKit
set_option linter.unusedVariables false
set_option linter.unusedSimpArgs false
theorem cells_3 : Tryz.prog.cellsOf 3 = 1 := by kernel_rfl
theorem cells_4 : Tryz.prog.cellsOf 4 = 1 := by kernel_rfl
theorem cells_47 : Tryz.prog.cellsOf 47 = 5 := by kernel_rfl
def goodAttr (d : AttrD) : Prop := In64 d.Fg ∧ In64 d.Bg
theorem open_Attr {H : Type} {enc : TypeId × Value → H} {w : World} {base : Nat} {spare : Nat → Bool} {held : Bool} {fuel : Nat} {cs : List Value} {x : DataW H × List MemPlace} (h : DataW.trod enc Tryz.prog w base spare held fuel 47 cs = some x) : ∃ d, cs = encAttr.enc d ∧ goodAttr d := by
  obtain ⟨hl, n, hg⟩ := trod_flds Tryz.underlying47 h
  rw [cells_47] at hl
  obtain ⟨c0, l0, rfl, z0⟩ := list_succ hl
  obtain ⟨c1, l1, rfl, z1⟩ := list_succ z0
  obtain ⟨c2, l2, rfl, z2⟩ := list_succ z1
  obtain ⟨c3, l3, rfl, z3⟩ := list_succ z2
  obtain ⟨c4, l4, rfl, z4⟩ := list_succ z3
  obtain rfl := list_zero z4
  obtain ⟨y0, g0⟩ := hg 0 _ rfl
  rw [show Tryz.prog.cellsOf _ = 1 from cells_3] at g0
  replace g0 : DataW.trod _ _ _ _ _ _ _ 3 [c0] = _ := g0
  obtain ⟨x0, e0, w0⟩ := open_i64 Tryz.underlying3 g0
  obtain ⟨y1, g1⟩ := hg 1 _ rfl
  rw [show Tryz.prog.cellsOf _ = 1 from cells_3] at g1
  replace g1 : DataW.trod _ _ _ _ _ _ _ 3 [c1] = _ := g1
  obtain ⟨x1, e1, w1⟩ := open_i64 Tryz.underlying3 g1
  obtain ⟨y2, g2⟩ := hg 2 _ rfl
  rw [show Tryz.prog.cellsOf _ = 1 from cells_4] at g2
  replace g2 : DataW.trod _ _ _ _ _ _ _ 4 [c2] = _ := g2
  obtain ⟨x2, e2⟩ := open_bool' Tryz.underlying4 g2
  obtain ⟨y3, g3⟩ := hg 3 _ rfl
  rw [show Tryz.prog.cellsOf _ = 1 from cells_4] at g3
  replace g3 : DataW.trod _ _ _ _ _ _ _ 4 [c3] = _ := g3
  obtain ⟨x3, e3⟩ := open_bool' Tryz.underlying4 g3
  obtain ⟨y4, g4⟩ := hg 4 _ rfl
  rw [show Tryz.prog.cellsOf _ = 1 from cells_4] at g4
  replace g4 : DataW.trod _ _ _ _ _ _ _ 4 [c4] = _ := g4
  obtain ⟨x4, e4⟩ := open_bool' Tryz.underlying4 g4
  cases e0
  cases e1
  cases e2
  cases e3
  cases e4
  exact ⟨⟨x0, x1, x2, x3, x4⟩, rfl, ⟨w0, w1⟩⟩
theorem cells_216 : Tryz.prog.cellsOf 216 = 6 := by kernel_rfl
def goodCell (d : CellD) : Prop := In64 d.R ∧ goodAttr d.A
theorem open_Cell {H : Type} {enc : TypeId × Value → H} {w : World} {base : Nat} {spare : Nat → Bool} {held : Bool} {fuel : Nat} {cs : List Value} {x : DataW H × List MemPlace} (h : DataW.trod enc Tryz.prog w base spare held fuel 216 cs = some x) : ∃ d, cs = encCell.enc d ∧ goodCell d := by
  obtain ⟨hl, n, hg⟩ := trod_flds Tryz.underlying216 h
  rw [cells_216] at hl
  obtain ⟨c0, l0, rfl, z0⟩ := list_succ hl
  obtain ⟨c1, l1, rfl, z1⟩ := list_succ z0
  obtain ⟨c2, l2, rfl, z2⟩ := list_succ z1
  obtain ⟨c3, l3, rfl, z3⟩ := list_succ z2
  obtain ⟨c4, l4, rfl, z4⟩ := list_succ z3
  obtain ⟨c5, l5, rfl, z5⟩ := list_succ z4
  obtain rfl := list_zero z5
  obtain ⟨y0, g0⟩ := hg 0 _ rfl
  rw [show Tryz.prog.cellsOf _ = 1 from cells_3] at g0
  replace g0 : DataW.trod _ _ _ _ _ _ _ 3 [c0] = _ := g0
  obtain ⟨x0, e0, w0⟩ := open_i64 Tryz.underlying3 g0
  obtain ⟨y1, g1⟩ := hg 1 _ rfl
  rw [show Tryz.prog.cellsOf _ = 5 from cells_47] at g1
  replace g1 : DataW.trod _ _ _ _ _ _ _ 47 [c1, c2, c3, c4, c5] = _ := g1
  obtain ⟨x1, e1, w1⟩ := open_Attr g1
  replace e1 : [c1, c2, c3, c4, c5] = [i64 x1.Fg, i64 x1.Bg, .bool x1.Bold, .bool x1.Under, .bool x1.Turn] := e1
  cases e0
  cases e1
  exact ⟨⟨x0, x1⟩, rfl, ⟨w0, w1⟩⟩
theorem cells_44 : Tryz.prog.cellsOf 44 = 1 := by kernel_rfl
theorem cells_46 : Tryz.prog.cellsOf 46 = 3 := by kernel_rfl
theorem open_GridR {H : Type} {enc : TypeId × Value → H} {w : World} {base : Nat} {spare : Nat → Bool} {held : Bool} {fuel : Nat} {cs : List Value} {x : DataW H × List MemPlace} (h : DataW.trod enc Tryz.prog w base spare held fuel 46 cs = some x) : ∃ d, cs = encGridR.enc d ∧ okGridR 9223372036854775807 w d := by
  obtain ⟨hl, n, hg⟩ := trod_flds Tryz.underlying46 h
  rw [cells_46] at hl
  obtain ⟨c0, l0, rfl, z0⟩ := list_succ hl
  obtain ⟨c1, l1, rfl, z1⟩ := list_succ z0
  obtain ⟨c2, l2, rfl, z2⟩ := list_succ z1
  obtain rfl := list_zero z2
  obtain ⟨y0, g0⟩ := hg 0 _ rfl
  rw [show Tryz.prog.cellsOf _ = 1 from cells_3] at g0
  replace g0 : DataW.trod _ _ _ _ _ _ _ 3 [c0] = _ := g0
  obtain ⟨x0, e0, w0⟩ := open_i64 Tryz.underlying3 g0
  obtain ⟨y1, g1⟩ := hg 1 _ rfl
  rw [show Tryz.prog.cellsOf _ = 1 from cells_3] at g1
  replace g1 : DataW.trod _ _ _ _ _ _ _ 3 [c1] = _ := g1
  obtain ⟨x1, e1, w1⟩ := open_i64 Tryz.underlying3 g1
  obtain ⟨y2, g2⟩ := hg 2 _ rfl
  rw [show Tryz.prog.cellsOf _ = 1 from cells_44] at g2
  replace g2 : DataW.trod _ _ _ _ _ _ _ 44 [c2] = _ := g2
  obtain ⟨A2, n2, k2, x2, e2, f2, hc2, hn2, hg2⟩ := open_SlE (F := encCell) (good := goodCell) Tryz.underlying44 cells_216 (fun _ _ _ h_ => open_Cell h_) g2
  cases e0
  cases e1
  cases e2
  exact ⟨⟨x0, x1, ⟨A2, n2, k2, x2⟩⟩, rfl, ⟨f2, hc2, hn2⟩⟩
theorem cells_172 : Tryz.prog.cellsOf 172 = 1 := by kernel_rfl
theorem open_RowR {H : Type} {enc : TypeId × Value → H} {w : World} {base : Nat} {spare : Nat → Bool} {held : Bool} {fuel : Nat} {cs : List Value} {x : DataW H × List MemPlace} (h : DataW.trod enc Tryz.prog w base spare held fuel 172 cs = some x) : ∃ d, cs = encRowR.enc d ∧ okRowR 9223372036854775807 w d := by
  obtain ⟨hl, n, hg⟩ := trod_flds Tryz.underlying172 h
  rw [cells_172] at hl
  obtain ⟨c0, l0, rfl, z0⟩ := list_succ hl
  obtain rfl := list_zero z0
  obtain ⟨y0, g0⟩ := hg 0 _ rfl
  rw [show Tryz.prog.cellsOf _ = 1 from cells_44] at g0
  replace g0 : DataW.trod _ _ _ _ _ _ _ 44 [c0] = _ := g0
  obtain ⟨A0, n0, k0, x0, e0, f0, hc0, hn0, hg0⟩ := open_SlE (F := encCell) (good := goodCell) Tryz.underlying44 cells_216 (fun _ _ _ h_ => open_Cell h_) g0
  cases e0
  exact ⟨⟨⟨A0, n0, k0, x0⟩⟩, rfl, ⟨f0, hc0, hn0⟩⟩
theorem cells_23 : Tryz.prog.cellsOf 23 = 1 := by kernel_rfl
theorem cells_48 : Tryz.prog.cellsOf 48 = 1 := by kernel_rfl
theorem cells_50 : Tryz.prog.cellsOf 50 = 31 := by kernel_rfl
theorem open_ScrR {H : Type} {enc : TypeId × Value → H} {w : World} {base : Nat} {spare : Nat → Bool} {held : Bool} {fuel : Nat} {cs : List Value} {x : DataW H × List MemPlace} (h : DataW.trod enc Tryz.prog w base spare held fuel 50 cs = some x) : ∃ d, cs = encScrR.enc d ∧ okScrR 9223372036854775807 w d := by
  obtain ⟨hl, n, hg⟩ := trod_flds Tryz.underlying50 h
  rw [cells_50] at hl
  obtain ⟨c0, l0, rfl, z0⟩ := list_succ hl
  obtain ⟨c1, l1, rfl, z1⟩ := list_succ z0
  obtain ⟨c2, l2, rfl, z2⟩ := list_succ z1
  obtain ⟨c3, l3, rfl, z3⟩ := list_succ z2
  obtain ⟨c4, l4, rfl, z4⟩ := list_succ z3
  obtain ⟨c5, l5, rfl, z5⟩ := list_succ z4
  obtain ⟨c6, l6, rfl, z6⟩ := list_succ z5
  obtain ⟨c7, l7, rfl, z7⟩ := list_succ z6
  obtain ⟨c8, l8, rfl, z8⟩ := list_succ z7
  obtain ⟨c9, l9, rfl, z9⟩ := list_succ z8
  obtain ⟨c10, l10, rfl, z10⟩ := list_succ z9
  obtain ⟨c11, l11, rfl, z11⟩ := list_succ z10
  obtain ⟨c12, l12, rfl, z12⟩ := list_succ z11
  obtain ⟨c13, l13, rfl, z13⟩ := list_succ z12
  obtain ⟨c14, l14, rfl, z14⟩ := list_succ z13
  obtain ⟨c15, l15, rfl, z15⟩ := list_succ z14
  obtain ⟨c16, l16, rfl, z16⟩ := list_succ z15
  obtain ⟨c17, l17, rfl, z17⟩ := list_succ z16
  obtain ⟨c18, l18, rfl, z18⟩ := list_succ z17
  obtain ⟨c19, l19, rfl, z19⟩ := list_succ z18
  obtain ⟨c20, l20, rfl, z20⟩ := list_succ z19
  obtain ⟨c21, l21, rfl, z21⟩ := list_succ z20
  obtain ⟨c22, l22, rfl, z22⟩ := list_succ z21
  obtain ⟨c23, l23, rfl, z23⟩ := list_succ z22
  obtain ⟨c24, l24, rfl, z24⟩ := list_succ z23
  obtain ⟨c25, l25, rfl, z25⟩ := list_succ z24
  obtain ⟨c26, l26, rfl, z26⟩ := list_succ z25
  obtain ⟨c27, l27, rfl, z27⟩ := list_succ z26
  obtain ⟨c28, l28, rfl, z28⟩ := list_succ z27
  obtain ⟨c29, l29, rfl, z29⟩ := list_succ z28
  obtain ⟨c30, l30, rfl, z30⟩ := list_succ z29
  obtain rfl := list_zero z30
  obtain ⟨y0, g0⟩ := hg 0 _ rfl
  rw [show Tryz.prog.cellsOf _ = 1 from cells_3] at g0
  replace g0 : DataW.trod _ _ _ _ _ _ _ 3 [c0] = _ := g0
  obtain ⟨x0, e0, w0⟩ := open_i64 Tryz.underlying3 g0
  obtain ⟨y1, g1⟩ := hg 1 _ rfl
  rw [show Tryz.prog.cellsOf _ = 1 from cells_3] at g1
  replace g1 : DataW.trod _ _ _ _ _ _ _ 3 [c1] = _ := g1
  obtain ⟨x1, e1, w1⟩ := open_i64 Tryz.underlying3 g1
  obtain ⟨y2, g2⟩ := hg 2 _ rfl
  rw [show Tryz.prog.cellsOf _ = 3 from cells_46] at g2
  replace g2 : DataW.trod _ _ _ _ _ _ _ 46 [c2, c3, c4] = _ := g2
  obtain ⟨x2, e2, o2⟩ := open_GridR g2
  replace e2 : [c2, c3, c4] = [i64 x2.W, i64 x2.H, .slice x2.Cells.A x2.Cells.n x2.Cells.c] := e2
  obtain ⟨y3, g3⟩ := hg 3 _ rfl
  rw [show Tryz.prog.cellsOf _ = 3 from cells_46] at g3
  replace g3 : DataW.trod _ _ _ _ _ _ _ 46 [c5, c6, c7] = _ := g3
  obtain ⟨x3, e3, o3⟩ := open_GridR g3
  replace e3 : [c5, c6, c7] = [i64 x3.W, i64 x3.H, .slice x3.Cells.A x3.Cells.n x3.Cells.c] := e3
  obtain ⟨y4, g4⟩ := hg 4 _ rfl
  rw [show Tryz.prog.cellsOf _ = 1 from cells_4] at g4
  replace g4 : DataW.trod _ _ _ _ _ _ _ 4 [c8] = _ := g4
  obtain ⟨x4, e4⟩ := open_bool' Tryz.underlying4 g4
  obtain ⟨y5, g5⟩ := hg 5 _ rfl
  rw [show Tryz.prog.cellsOf _ = 1 from cells_3] at g5
  replace g5 : DataW.trod _ _ _ _ _ _ _ 3 [c9] = _ := g5
  obtain ⟨x5, e5, w5⟩ := open_i64 Tryz.underlying3 g5
  obtain ⟨y6, g6⟩ := hg 6 _ rfl
  rw [show Tryz.prog.cellsOf _ = 1 from cells_3] at g6
  replace g6 : DataW.trod _ _ _ _ _ _ _ 3 [c10] = _ := g6
  obtain ⟨x6, e6, w6⟩ := open_i64 Tryz.underlying3 g6
  obtain ⟨y7, g7⟩ := hg 7 _ rfl
  rw [show Tryz.prog.cellsOf _ = 1 from cells_4] at g7
  replace g7 : DataW.trod _ _ _ _ _ _ _ 4 [c11] = _ := g7
  obtain ⟨x7, e7⟩ := open_bool' Tryz.underlying4 g7
  obtain ⟨y8, g8⟩ := hg 8 _ rfl
  rw [show Tryz.prog.cellsOf _ = 5 from cells_47] at g8
  replace g8 : DataW.trod _ _ _ _ _ _ _ 47 [c12, c13, c14, c15, c16] = _ := g8
  obtain ⟨x8, e8, w8⟩ := open_Attr g8
  replace e8 : [c12, c13, c14, c15, c16] = [i64 x8.Fg, i64 x8.Bg, .bool x8.Bold, .bool x8.Under, .bool x8.Turn] := e8
  obtain ⟨y9, g9⟩ := hg 9 _ rfl
  rw [show Tryz.prog.cellsOf _ = 1 from cells_3] at g9
  replace g9 : DataW.trod _ _ _ _ _ _ _ 3 [c17] = _ := g9
  obtain ⟨x9, e9, w9⟩ := open_i64 Tryz.underlying3 g9
  obtain ⟨y10, g10⟩ := hg 10 _ rfl
  rw [show Tryz.prog.cellsOf _ = 1 from cells_3] at g10
  replace g10 : DataW.trod _ _ _ _ _ _ _ 3 [c18] = _ := g10
  obtain ⟨x10, e10, w10⟩ := open_i64 Tryz.underlying3 g10
  obtain ⟨y11, g11⟩ := hg 11 _ rfl
  rw [show Tryz.prog.cellsOf _ = 1 from cells_4] at g11
  replace g11 : DataW.trod _ _ _ _ _ _ _ 4 [c19] = _ := g11
  obtain ⟨x11, e11⟩ := open_bool' Tryz.underlying4 g11
  obtain ⟨y12, g12⟩ := hg 12 _ rfl
  rw [show Tryz.prog.cellsOf _ = 1 from cells_4] at g12
  replace g12 : DataW.trod _ _ _ _ _ _ _ 4 [c20] = _ := g12
  obtain ⟨x12, e12⟩ := open_bool' Tryz.underlying4 g12
  obtain ⟨y13, g13⟩ := hg 13 _ rfl
  rw [show Tryz.prog.cellsOf _ = 1 from cells_3] at g13
  replace g13 : DataW.trod _ _ _ _ _ _ _ 3 [c21] = _ := g13
  obtain ⟨x13, e13, w13⟩ := open_i64 Tryz.underlying3 g13
  obtain ⟨y14, g14⟩ := hg 14 _ rfl
  rw [show Tryz.prog.cellsOf _ = 1 from cells_3] at g14
  replace g14 : DataW.trod _ _ _ _ _ _ _ 3 [c22] = _ := g14
  obtain ⟨x14, e14, w14⟩ := open_i64 Tryz.underlying3 g14
  obtain ⟨y15, g15⟩ := hg 15 _ rfl
  rw [show Tryz.prog.cellsOf _ = 5 from cells_47] at g15
  replace g15 : DataW.trod _ _ _ _ _ _ _ 47 [c23, c24, c25, c26, c27] = _ := g15
  obtain ⟨x15, e15, w15⟩ := open_Attr g15
  replace e15 : [c23, c24, c25, c26, c27] = [i64 x15.Fg, i64 x15.Bg, .bool x15.Bold, .bool x15.Under, .bool x15.Turn] := e15
  obtain ⟨y16, g16⟩ := hg 16 _ rfl
  rw [show Tryz.prog.cellsOf _ = 1 from cells_23] at g16
  replace g16 : DataW.trod _ _ _ _ _ _ _ 23 [c28] = _ := g16
  obtain ⟨A16, n16, k16, x16, e16, f16, hc16, hn16, hg16⟩ := open_SlE (F := encI) (good := fun n => In64 n) Tryz.underlying23 cells_3 (fun _ _ _ h_ => open_e64 Tryz.underlying3 h_) g16
  obtain ⟨y17, g17⟩ := hg 17 _ rfl
  rw [show Tryz.prog.cellsOf _ = 1 from cells_3] at g17
  replace g17 : DataW.trod _ _ _ _ _ _ _ 3 [c29] = _ := g17
  obtain ⟨x17, e17, w17⟩ := open_i64 Tryz.underlying3 g17
  obtain ⟨y18, g18⟩ := hg 18 _ rfl
  rw [show Tryz.prog.cellsOf _ = 1 from cells_48] at g18
  replace g18 : DataW.trod _ _ _ _ _ _ _ 48 [c30] = _ := g18
  obtain ⟨A18, n18, k18, x18, e18, f18, hc18, hn18, hg18⟩ := open_SlE (F := encRowR) (good := fun d => okRowR 9223372036854775807 w d) Tryz.underlying48 cells_172 (fun _ _ _ h_ => open_RowR h_) g18
  cases e0
  cases e1
  cases e2
  cases e3
  cases e4
  cases e5
  cases e6
  cases e7
  cases e8
  cases e9
  cases e10
  cases e11
  cases e12
  cases e13
  cases e14
  cases e15
  cases e16
  cases e17
  cases e18
  exact ⟨⟨x0, x1, x2, x3, x4, x5, x6, x7, x8, x9, x10, x11, x12, x13, x14, x15, ⟨A16, n16, k16, x16⟩, x17, ⟨A18, n18, k18, x18⟩⟩, rfl, ⟨o2, o3, f16, hc16, hn16, ⟨f18, hg18⟩, hc18, hn18⟩⟩
theorem cells_76 : Tryz.prog.cellsOf 76 = 4 := by kernel_rfl
theorem open_ActR {H : Type} {enc : TypeId × Value → H} {w : World} {base : Nat} {spare : Nat → Bool} {held : Bool} {fuel : Nat} {cs : List Value} {x : DataW H × List MemPlace} (h : DataW.trod enc Tryz.prog w base spare held fuel 76 cs = some x) : ∃ d, cs = encActR.enc d ∧ okActR 9223372036854775807 w d := by
  obtain ⟨hl, n, hg⟩ := trod_flds Tryz.underlying76 h
  rw [cells_76] at hl
  obtain ⟨c0, l0, rfl, z0⟩ := list_succ hl
  obtain ⟨c1, l1, rfl, z1⟩ := list_succ z0
  obtain ⟨c2, l2, rfl, z2⟩ := list_succ z1
  obtain ⟨c3, l3, rfl, z3⟩ := list_succ z2
  obtain rfl := list_zero z3
  obtain ⟨y0, g0⟩ := hg 0 _ rfl
  rw [show Tryz.prog.cellsOf _ = 1 from cells_3] at g0
  replace g0 : DataW.trod _ _ _ _ _ _ _ 3 [c0] = _ := g0
  obtain ⟨x0, e0, w0⟩ := open_i64 Tryz.underlying3 g0
  obtain ⟨y1, g1⟩ := hg 1 _ rfl
  rw [show Tryz.prog.cellsOf _ = 1 from cells_3] at g1
  replace g1 : DataW.trod _ _ _ _ _ _ _ 3 [c1] = _ := g1
  obtain ⟨x1, e1, w1⟩ := open_i64 Tryz.underlying3 g1
  obtain ⟨y2, g2⟩ := hg 2 _ rfl
  rw [show Tryz.prog.cellsOf _ = 1 from cells_4] at g2
  replace g2 : DataW.trod _ _ _ _ _ _ _ 4 [c2] = _ := g2
  obtain ⟨x2, e2⟩ := open_bool' Tryz.underlying4 g2
  obtain ⟨y3, g3⟩ := hg 3 _ rfl
  rw [show Tryz.prog.cellsOf _ = 1 from cells_23] at g3
  replace g3 : DataW.trod _ _ _ _ _ _ _ 23 [c3] = _ := g3
  obtain ⟨A3, n3, k3, x3, e3, f3, hc3, hn3, hg3⟩ := open_SlE (F := encI) (good := fun n => In64 n) Tryz.underlying23 cells_3 (fun _ _ _ h_ => open_e64 Tryz.underlying3 h_) g3
  cases e0
  cases e1
  cases e2
  cases e3
  exact ⟨⟨x0, x1, x2, ⟨A3, n3, k3, x3⟩⟩, rfl, ⟨f3, hc3, hn3⟩⟩
namespace fnExactScrAct
open Go.ChangeShapes Go.WideShapes Go.ChangeAt Go.RowKit
theorem own : ownKnob Tryz.prog.godebug = none := by kernel_rfl
theorem laidOut : laidOutB Tryz.prog = true := by kernel_rfl
set_option maxRecDepth 100000 in
set_option maxHeartbeats 1000000 in
theorem lifted (os : Os) (started : os.Started) (H : Type) (enc : TypeId × Value → H) :
    ReturnsInHanded {} Tryz.checked os 8 .any (Rows.fnExactScrActSpec.pre6 enc Tryz.prog Tryz.f8 Rows.fnExactScrActRow.domain false) (Rows.fnExactScrActSpec.post enc Tryz.prog Tryz.f8 false true false false) := by
  refine returnsInHanded_of_change (C := Tryz.checked) own started (by kernel_rfl) Tryz.func8
    (ChangeSpec.witness6 (enc := enc) (C := Tryz.checked) false ⟨#[], #[(Value.agg #[Value.int IntKind.i64 0, Value.int IntKind.i64 0, Value.int IntKind.i64 0, Value.int IntKind.i64 0, Value.slice none 0 0, Value.int IntKind.i64 0, Value.int IntKind.i64 0, Value.slice none 0 0, Value.bool false, Value.int IntKind.i64 0, Value.int IntKind.i64 0, Value.bool false, Value.int IntKind.i64 0, Value.int IntKind.i64 0, Value.bool false, Value.bool false, Value.bool false, Value.int IntKind.i64 0, Value.int IntKind.i64 0, Value.bool false, Value.bool false, Value.int IntKind.i64 0, Value.int IntKind.i64 0, Value.int IntKind.i64 0, Value.int IntKind.i64 0, Value.bool false, Value.bool false, Value.bool false, Value.slice none 0 0, Value.int IntKind.i64 0, Value.slice none 0 0]), (Value.agg #[Value.int IntKind.i64 0, Value.int IntKind.i64 0, Value.bool false, Value.slice none 0 0])], []⟩ 8 (by kernel_rfl) (by kernel_rfl) (by kernel_rfl) (by kernel_rfl)) ?_
  intro W base args ds gs before hval0 hW hcnd _
  have hval : ∀ (j : Nat) t v, Tryz.f8.params[j]? = some t → args[j]? = some v → Value.okWide Tryz.prog W .any base t v := hval0
  have hW' := hW
  obtain ⟨p, q, hA0, hV, rfl, hfz, hnd⟩ := hW
  have hA : DataW.TrodAll enc Tryz.prog W 0 (fun _ => true) true Tryz.f8.params.toList args.toList ds p := hA0
  rw [Tryz.params8] at hA hval
  obtain ⟨v0, vs0, d0, ds0, p0, q0, hargs, rfl, rfl, h0, r0⟩ := trodAll_cons hA
  obtain ⟨v1, vs1, d1, ds1, p1, q1, rfl, rfl, rfl, h1, r1⟩ := trodAll_cons r0
  obtain ⟨rfl, rfl, rfl⟩ := trodAll_nil r1
  obtain rfl : args = #[v0, v1] := by cases args; simp_all
  obtain ⟨rfl, rfl⟩ := trodVars_none hV
  have k0 := h0
  have lt0 : ∀ x ∈ p0, x.block < W.heap.size := by obtain ⟨m, hm⟩ := k0; exact DataW.trod_lt m _ _ _ hm
  have k1 := h1
  have lt1 : ∀ x ∈ p1, x.block < W.heap.size := by obtain ⟨m, hm⟩ := k1; exact DataW.trod_lt m _ _ _ hm
  obtain ⟨cs0, rfl, hsz0⟩ := okWide_struct Tryz.underlying50 (hval 0 50 v0 rfl rfl)
  obtain ⟨l0⟩ := cs0
  obtain ⟨fuel0, hf0⟩ := h0
  replace hf0 : DataW.trod _ _ _ _ _ _ _ 50 l0 = _ := hf0
  obtain ⟨aS, rfl, f_aS⟩ := open_ScrR hf0
  obtain ⟨cs1, rfl, hsz1⟩ := okWide_struct Tryz.underlying76 (hval 1 76 v1 rfl rfl)
  obtain ⟨l1⟩ := cs1
  obtain ⟨fuel1, hf1⟩ := h1
  replace hf1 : DataW.trod _ _ _ _ _ _ _ 76 l1 = _ := hf1
  obtain ⟨aA, rfl, f_aA⟩ := open_ActR hf1
  clear hA0 hval0
  refine (c_laws_FnExactScrAct aS aA W f_aS f_aA).mono fun e W' ⟨he, hst⟩ => ?_
  have bel := hst.toBelow
  subst he
  exact ⟨_, rfl, _, _, _, [], _, [], hW', trodAll_mk1 (shut_bool Tryz.underlying4 _), (trodAll_cons_mk (Below.trod laidOut (by kernel_rfl) (of_decide_eq_true (by kernel_rfl)) k0 bel lt0) (trodAll_cons_mk (Below.trod laidOut (by kernel_rfl) (of_decide_eq_true (by kernel_rfl)) k1 bel lt1) trodAll_mk0)), rfl, bel.frame _, fun h => by cases h⟩
theorem over : Rows.fnExactScrActRow.holds Tryz.pinned (OpenSpec.ofChange Rows.fnExactScrActSpec) :=
  OpenClaim.holds_of_wide 8 Tryz.f8 rfl rfl rfl rfl rfl rfl rfl ⟨rfl, rfl, rfl, rfl, rfl⟩ rfl rfl rfl rfl rfl (by kernel_rfl) Tryz.func8 (by kernel_rfl)
    (of_decide_eq_true (by kernel_rfl)) (by unfold Func.isWrapper; first | (rw [if_pos (by decide +kernel)]; kernel_rfl) | (rw [if_neg (by decide +kernel)]; exact ⟨rfl, rfl⟩))
    (fun os started H enc _ => lifted os started H enc)
end fnExactScrAct
theorem fnExactScrAct_holds : Rows.FnExactScrActSaid := fnExactScrAct.over
end Go.Proofs.YtjmegoiclgancaaGreat
