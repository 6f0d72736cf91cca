/- Walks of Go functions, printed by a program (wip/gen). -/
import Derived.Test.YtlmcekfdlgkffaaGreatX5
namespace Go.Proofs.YtlmcekfdlgkffaaGreat
open Go Go.RowKit
set_option linter.unusedVariables false
set_option linter.unusedSimpArgs false
theorem c_spec_ScrSize (s : ScrR) (w_ : Int) (h_ : Int) (w : World) (f_s : okScrR 549755813888 w s) (hsm : smScr 1048576 s.dat) :
    Calls Tryz.prog 55 #[.agg #[i64 s.W, i64 s.H, i64 s.Main.W, i64 s.Main.H, .slice s.Main.Cells.A s.Main.Cells.n s.Main.Cells.c, i64 s.Alt.W, i64 s.Alt.H, .slice s.Alt.Cells.A s.Alt.Cells.n s.Alt.Cells.c, .bool s.OnAlt, i64 s.X, i64 s.Y, .bool s.Wrap, i64 s.A.Fg, i64 s.A.Bg, .bool s.A.Bold, .bool s.A.Under, .bool s.A.Turn, i64 s.Top, i64 s.Bot, .bool s.NoWrap, .bool s.Hide, i64 s.SaveX, i64 s.SaveY, i64 s.SaveA.Fg, i64 s.SaveA.Bg, .bool s.SaveA.Bold, .bool s.SaveA.Under, .bool s.SaveA.Turn, .slice s.Tabs.A s.Tabs.n s.Tabs.c, i64 s.Limit, .slice s.Back.A s.Back.n s.Back.c], i64 w_, i64 h_] w fun e w' => ∃ r0 L0, e = .returned (.tuple #[.agg #[i64 r0.W, i64 r0.H, i64 r0.Main.W, i64 r0.Main.H, .slice r0.Main.Cells.A r0.Main.Cells.n r0.Main.Cells.c, i64 r0.Alt.W, i64 r0.Alt.H, .slice r0.Alt.Cells.A r0.Alt.Cells.n r0.Alt.Cells.c, .bool r0.OnAlt, i64 r0.X, i64 r0.Y, .bool r0.Wrap, i64 r0.A.Fg, i64 r0.A.Bg, .bool r0.A.Bold, .bool r0.A.Under, .bool r0.A.Turn, i64 r0.Top, i64 r0.Bot, .bool r0.NoWrap, .bool r0.Hide, i64 r0.SaveX, i64 r0.SaveY, i64 r0.SaveA.Fg, i64 r0.SaveA.Bg, .bool r0.SaveA.Bold, .bool r0.SaveA.Under, .bool r0.SaveA.Turn, .slice r0.Tabs.A r0.Tabs.n r0.Tabs.c, i64 r0.Limit, .slice r0.Back.A r0.Back.n r0.Back.c], .bool (scrSizeOk s.dat w_ h_)]) ∧ St w [] (L0) w' ∧ ownScrR r0 L0 ∧ r0.dat = scrSizeRes s.dat w_ h_ := by
 have nb_s_Main_Cells := f_s.Main.Cells_n
 have nl_s_Main_Cells := f_s.Main.Cells.len
 have nb_s_Alt_Cells := f_s.Alt.Cells_n
 have nl_s_Alt_Cells := f_s.Alt.Cells.len
 have nb_s_Tabs := f_s.Tabs_n
 have nl_s_Tabs := f_s.Tabs.len
 have nb_s_Back := f_s.Back_n
 have nl_s_Back := f_s.Back.sl.len
 have hsmB : smScr 549755813888 s.dat := smScr_mono hsm (by decide)
 refine enter (vs := [.agg #[i64 s.W, i64 s.H, i64 s.Main.W, i64 s.Main.H, .slice s.Main.Cells.A s.Main.Cells.n s.Main.Cells.c, i64 s.Alt.W, i64 s.Alt.H, .slice s.Alt.Cells.A s.Alt.Cells.n s.Alt.Cells.c, .bool s.OnAlt, i64 s.X, i64 s.Y, .bool s.Wrap, i64 s.A.Fg, i64 s.A.Bg, .bool s.A.Bold, .bool s.A.Under, .bool s.A.Turn, i64 s.Top, i64 s.Bot, .bool s.NoWrap, .bool s.Hide, i64 s.SaveX, i64 s.SaveY, i64 s.SaveA.Fg, i64 s.SaveA.Bg, .bool s.SaveA.Bold, .bool s.SaveA.Under, .bool s.SaveA.Turn, .slice s.Tabs.A s.Tabs.n s.Tabs.c, i64 s.Limit, .slice s.Back.A s.Back.n s.Back.c], i64 w_, i64 h_]) 99 Tryz.func55 rfl Tryz.ntmps55 rfl rfl ?_
 have hs1 := St.init w
 refine WC.sr ?_
 refine WL.bx hs1 rfl (fun b2 _ hs3 => ?_)
 refine WL.al hs3 Tryz.zeroValue44 rfl rfl (fun b4 _ hs5 => ?_)
 refine WL.run tbk 1 hs5 [] rfl trivial ?_
 refine WL.nil ?_
 refine WC.sr ?_
 refine WL.run tbk 2 hs5 [] rfl trivial ?_
 refine WL.call rfl rfl rfl (Run.call Tryz.call130 rfl rfl rfl) (c_spec_GridNew _ _ _) ?_
 rintro _ whs6 ⟨r0_7, L0_8, rfl, hs6, ho9, hd0_10⟩
 replace hs6 := hs5.callF hs6
 refine ⟨_, rfl, ?_⟩
 replace hs6 := St.back [_, _] hs6
 have hgd := hd0_10
 refine WL.run tbk 3 hs6 [] rfl trivial ?_
 refine WL.al hs6 Tryz.zeroValue40 rfl rfl (fun b11 _ hs12 => ?_)
 refine WL.st tbk hs12 0 rfl rfl (fun _ hs13 => ?_)
 refine WL.run tbk 1 hs13 [] rfl trivial ?_
 refine WL.nil ?_
 refine WC.seq (fun K14 hK14 => ?_)
 refine WC.sr ?_
 refine WL.run tbk 1 hs13 [2] rfl ⟨rfl, trivial⟩ ?_
 refine WL.call rfl rfl rfl (Run.call Tryz.call85 rfl rfl rfl) (c_spec_ScrOk s _ (okScrR.st0 f_s hs13)) ?_
 rintro _ whs15 ⟨rfl, hs15⟩
 replace hs15 := hs13.call0 hs15
 refine ⟨_, rfl, ?_⟩
 refine WL.run tbk 2 hs15 [] rfl trivial ?_
 refine WL.pO tbk 2 Acts.nil hs15 [] rfl rfl rfl rfl (fun g_ => trivial) ?_
 refine WL.nil ?_
 refine WC.cond rfl (fun h16 => ?_) (fun h16 => ?_)
 ·have qh16 := h16
  try simp only [bf, within_iff, within_not] at qh16
  have hk : scrSizeOk s.dat w_ h_ = false := by unfold scrSizeOk; have h9 := h16; revert h9; cases scrOk s.dat <;> cases isSize w_ h_ <;> simp
  refine WC.sr ?_
  refine WL.val rfl rfl rfl (Run.build rfl rfl rfl rfl (built_44)) ?_
  refine WL.st tbk hs15 1 rfl rfl (fun _ hs17 => ?_)
  refine WL.run tbk 1 hs17 [] rfl trivial ?_
  refine WL.nil ?_
  refine WC.ret ?_
  refine tkR ?_
  clear hK14
  refine retV2 rfl (resV.cellA tbk hs17 1 rfl rfl rfl rfl) (resV.tmp rfl) ?_
  have hv : scrSizeRes s.dat w_ h_ = scr0 := by unfold scrSizeRes; rw [hk]; rfl
  rw [hk]
  obtain ⟨L23, hs22, ho24⟩ := ownScrR.fold ⟨0, 0, ⟨0, 0, ⟨_, _, _, _⟩⟩, ⟨0, 0, ⟨_, _, _, _⟩⟩, false, 0, 0, false, ⟨0, 0, false, false, false⟩, 0, 0, false, false, 0, 0, ⟨0, 0, false, false, false⟩, ⟨_, _, _, _⟩, 0, ⟨_, _, _, _⟩⟩ (St.perm (St.perm (St.perm (St.perm hs17 (L' := ([] : Hp) ++ _) (perm_front (A := [_, _, _]) (List.Perm.refl _))) (L' := ([] : Hp) ++ _) (perm_front (A := ([] : Hp)) (perm_front (A := [_, _, _]) (List.Perm.refl _)))) (L' := ([] : Hp) ++ _) (perm_front (A := ([] : Hp)) (perm_front (A := ([] : Hp)) (perm_front (A := [_, _, _]) (List.Perm.refl _))))) (L' := ([] : Hp) ++ _) (perm_front (A := ([] : Hp)) (perm_front (A := ([] : Hp)) (perm_front (A := ([] : Hp)) (perm_front (A := [_, _, _]) (List.Perm.refl _)))))) (OwnF.nil _ _) (OwnF.nil _ _) (OwnF.nil _ _) (OwnN.nil _ _ _)
  have hs25 := (St.perm (St.perm (St.perm hs22 (L' := [_] ++ _) (perm_front (A := L23) (perm_front (A := [_, _]) (List.Perm.refl _)))) (L' := [_] ++ _) (perm_front (A := [_]) (perm_front (A := L23) (perm_front (A := [_]) (List.Perm.refl _))))) (L' := [_] ++ _) (perm_front (A := [_, _]) (perm_front (A := L23) (List.Perm.refl _))))
  refine ⟨⟨0, 0, ⟨0, 0, ⟨none, 0, 0, []⟩⟩, ⟨0, 0, ⟨none, 0, 0, []⟩⟩, false, 0, 0, false, ⟨0, 0, false, false, false⟩, 0, 0, false, false, 0, 0, ⟨0, 0, false, false, false⟩, ⟨none, 0, 0, []⟩, 0, ⟨none, 0, 0, []⟩⟩, _, rfl, (St.keep1 (St.perm hs25 (L' := L23 ++ _) (perm_front (A := [_, _, _]) (List.Perm.refl _)))), ?_, ?_⟩
  · exact (by exact ho24)
  · rw [hv]; rfl
 ·have qh16 := h16
  try simp only [bf, within_iff, within_not] at qh16
  have hk : scrSizeOk s.dat w_ h_ = true := by unfold scrSizeOk; have h9 := h16; revert h9; cases scrOk s.dat <;> cases isSize w_ h_ <;> simp
  have hok : scrOk s.dat = true := by unfold scrSizeOk at hk; rw [Bool.and_eq_true] at hk; exact hk.1
  have hs : isSize w_ h_ = true := by unfold scrSizeOk at hk; rw [Bool.and_eq_true] at hk; exact hk.2
  have hgr : gridRes w_ h_ = gridNew w_ h_ := by unfold gridRes; rw [hs]; rfl
  have hgB2 : smGrid 549755813888 (gridRes w_ h_) := by rw [hgr]; exact gridNew_sm hs (by decide)
  obtain ⟨hw1, hh1, hwh, hwh2⟩ := isSize_bnd hs
  obtain ⟨hb1, hb2, hb3, hb4, hb5, hb6⟩ := scrOk_bnd hok
  obtain ⟨hm, hma⟩ := scrOk_main hok
  simp only [ScrR.dat, GridR.dat, List.length_map] at hb1 hb2 hb3 hb4 hb5 hb6
  refine WC.skip ?_
  refine hK14 _ _ ?_
  refine WC.sr ?_
  refine WL.run tbk 1 hs15 [2] rfl ⟨rfl, trivial⟩ ?_
  refine WL.call rfl rfl rfl (Run.call Tryz.call86 rfl rfl rfl) (c_spec_l09Copy s _ (okScrR.st0 f_s hs15) ?_) ?_
  · first | (first | assumption | rfl | omega) | (first | assumption | omega | (rw [hrM]; assumption) | (rw [hgd, hgr]; exact gridOk_new hs))
  rintro _ whs26 ⟨r27, L1_28, rfl, hs26, ho29, hd30⟩
  replace hs26 := hs15.callF hs26
  refine ⟨_, rfl, ?_⟩
  replace hs26 := St.back [_, _, _] hs26
  have hcp := hd30
  refine WL.al hs26 Tryz.zeroValue44 rfl rfl (fun b31 _ hs32 => ?_)
  refine WL.st tbk hs32 0 rfl rfl (fun _ hs33 => ?_)
  refine WL.nil ?_
  refine WC.rr tbk hs33 [3] rfl ⟨by omega, by omega, rfl, trivial⟩ ?_
  refine WC.seq (fun K34 hK34 => ?_)
  refine WC.rr tbk hs33 [] rfl trivial ?_
  refine WC.cond rfl (fun h35 => ?_) (fun h35 => ?_)
  ·have qh35 := h35
   try simp only [bf, within_iff, within_not] at qh35
   have hD : sizeD s.dat h_ = 0 := by unfold sizeD; show max 0 (s.Y - h_ + 1) = 0; omega
   refine WC.region ?_
   refine WL.run tbk 1 hs33 [] rfl trivial ?_
   refine WL.nil ?_
   refine hK34 _ _ ?_
   refine WC.seq (fun K36 hK36 => ?_)
   refine WC.rr tbk hs33 [] rfl trivial ?_
   refine WC.block ?_
   have hM41 := (St.grp1 (L1 := L1_28) [_] (St.perm (St.perm (St.perm (St.perm (St.perm (St.perm hs33 (L' := L0_8 ++ _) (perm_front (A := [_, _, _, _]) (perm_front (A := L1_28) (List.Perm.refl _)))) (L' := [_] ++ _) (perm_front (A := L0_8) (perm_front (A := [_, _, _]) (List.Perm.refl _)))) (L' := [_] ++ _) (perm_front (A := [_]) (perm_front (A := L0_8) (perm_front (A := [_, _]) (List.Perm.refl _))))) (L' := [_] ++ _) (perm_front (A := [_, _]) (perm_front (A := L0_8) (perm_front (A := [_]) (List.Perm.refl _))))) (L' := L1_28 ++ _) (perm_front (A := [_, _, _]) (perm_front (A := L0_8) (perm_front (A := [_]) (List.Perm.refl _))))) (L' := [_] ++ _) (perm_front (A := L1_28) (perm_front (A := [_, _, _]) (perm_front (A := L0_8) (List.Perm.refl _))))))
   refine WC.loopV (α := Hp) [(0, _), (1, _), (2, _), (3, _), (6, _), (7, _), (8, _), (9, _), (10, _), (11, _), (13, _), (14, _), (15, _), (16, _), (17, _), (18, _), (19, _), (20, _), (21, _), (22, _), (25, _), (27, _), (28, _), (29, _), (30, _), (31, _), (32, _), (33, _), (34, _), (35, _)] ⟨rfl, rfl, rfl, rfl, rfl, rfl, rfl, rfl, rfl, rfl, rfl, rfl, rfl, rfl, rfl, rfl, rfl, rfl, rfl, rfl, rfl, rfl, rfl, rfl, rfl, rfl, rfl, rfl, rfl, rfl, trivial⟩ (fun a_ => a_) _ hM41 (fun k_ (a_ : Hp) f => ∃ (i : Nat) (r : ScrR) (L39 : Hp), k_ = (sizeD s.dat h_).toNat - i ∧ a_ = [(b31, .cells (List.toArray [i64 r.W, i64 r.H, i64 r.Main.W, i64 r.Main.H, .slice r.Main.Cells.A r.Main.Cells.n r.Main.Cells.c, i64 r.Alt.W, i64 r.Alt.H, .slice r.Alt.Cells.A r.Alt.Cells.n r.Alt.Cells.c, .bool r.OnAlt, i64 r.X, i64 r.Y, .bool r.Wrap, i64 r.A.Fg, i64 r.A.Bg, .bool r.A.Bold, .bool r.A.Under, .bool r.A.Turn, i64 r.Top, i64 r.Bot, .bool r.NoWrap, .bool r.Hide, i64 r.SaveX, i64 r.SaveY, i64 r.SaveA.Fg, i64 r.SaveA.Bg, .bool r.SaveA.Bold, .bool r.SaveA.Under, .bool r.SaveA.Turn, .slice r.Tabs.A r.Tabs.n r.Tabs.c, i64 r.Limit, .slice r.Back.A r.Back.n r.Back.c]) 44 (0, 0))] ++ L39 ∧ ((i : Int) ≤ sizeD s.dat h_) ∧ (r.dat = keepRows s.dat i) ∧ (s.OnAlt = true → i = 0) ∧ ownScrR r L39 ∧ Sub [(12, .int .i64 i)] f) (((fun (i : Nat) => (sizeD s.dat h_).toNat - i) (0))) ?_ ?_
   ·refine ⟨0, r27, L1_28, rfl, rfl, ?_, ?_, ?_, ho29, ⟨rfl, trivial⟩⟩
    · omega
    · rw [hcp, keepRows_zero (by show ((s.Back.xs.map RowR.dat).length : Int) ≤ s.Limit; rw [List.length_map]; omega)]
    · exact fun _ => rfl
   ·rintro _ _ f w ⟨i, r, L39, rfl, rfl, p0, p1, p2, ho40, hG⟩ hF hs42
    refine WC.sub _ (hG.app hF) ?_
    clear hG hF
    replace hs42 := St.ungrp1 [_] hs42
    have hs43 := (St.perm (St.perm (St.perm (St.perm hs42 (L' := [_] ++ _) (perm_front (A := [_]) (perm_front (A := L39) (perm_front (A := [_, _]) (List.Perm.refl _))))) (L' := [_] ++ _) (perm_front (A := [_, _]) (perm_front (A := L39) (perm_front (A := [_]) (List.Perm.refl _))))) (L' := [_] ++ _) (perm_front (A := [_, _, _]) (perm_front (A := L39) (List.Perm.refl _)))) (L' := [_] ++ _) (perm_front (A := [_, _, _]) (List.Perm.refl _)))
    have hsmr : smScr 549755813888 r.dat := by rw [p1]; exact keepRows_sm hsmB hm (by decide) (by show s.Limit.toNat ≤ _; omega)
    have hrM : r.Main.dat = s.Main.dat := congrArg ScrD.Main p1
    have hrW : r.W = s.W := congrArg ScrD.W p1
    have hrL : r.Limit = s.Limit := congrArg ScrD.Limit p1
    have hrH : r.Main.H = s.Main.H := congrArg GridD.H hrM
    have hrV : r.Main.W = s.Main.W := congrArg GridD.W hrM
    have hrB : (r.Back.xs.length : Int) ≤ s.Limit := by have h9 := congrArg (fun d : ScrD => d.Back.length) p1; simp only [ScrR.dat, keepRows, lastN_len, List.length_map] at h9; omega
    refine WC.seq (fun K44 hK44 => ?_)
    refine WC.sr ?_
    refine WL.run tbk 4 hs43 [] rfl trivial ?_
    refine WL.pA tbk 3 Acts.nil hs43 [3] rfl rfl rfl rfl (fun g_ => ⟨rfl, trivial⟩) ?_
    refine WL.nil ?_
    refine WC.cond rfl (fun h45 => ?_) (fun h45 => ?_)
    ·have qh45 := h45
     try simp only [bf, within_iff, within_not] at qh45
     have hlt : (i : Int) < sizeD s.dat h_ := by have h9 := h45; rw [hD]; simp at h9; omega
     have hon : s.OnAlt = false := by have h9 := h45; simp at h9; exact h9.2
     refine WC.skip ?_
     refine hK44 _ _ ?_
     refine WC.seq (fun K46 hK46 => ?_)
     refine WC.block ?_
     refine WC.region ?_
     refine WL.run tbk 2 hs43 [0] rfl ⟨rfl, trivial⟩ ?_
     refine WL.call rfl rfl rfl (Run.call Tryz.call131 rfl rfl rfl) (c_spec_l09Keep r _ _ _ ho40 (fun p_ hp_ => (hs43.own p_ (List.mem_append_right [_, _, _, _] (List.mem_append_left _ hp_))).1) (St.nodupL (St.perm hs43 (L' := L39 ++ _) (perm_front (A := [_, _, _, _]) (List.Perm.refl _)))) ?_ ?_ ?_ ?_ ?_ ?_) ?_
     · first | (first | assumption | rfl | omega) | (first | assumption | omega | (rw [hrM]; assumption) | (rw [hgd, hgr]; exact gridOk_new hs))
     · first | (first | assumption | rfl | omega) | (first | assumption | omega | (rw [hrM]; assumption) | (rw [hgd, hgr]; exact gridOk_new hs))
     · first | (first | assumption | rfl | omega) | (first | assumption | omega | (rw [hrM]; assumption) | (rw [hgd, hgr]; exact gridOk_new hs))
     · first | (first | assumption | rfl | omega) | (first | assumption | omega | (rw [hrM]; assumption) | (rw [hgd, hgr]; exact gridOk_new hs))
     · first | (first | assumption | rfl | omega) | (first | assumption | omega | (rw [hrM]; assumption) | (rw [hgd, hgr]; exact gridOk_new hs))
     · first | (first | assumption | rfl | omega) | (first | assumption | omega | (rw [hrM]; assumption) | (rw [hgd, hgr]; exact gridOk_new hs))
     rintro _ whs47 ⟨r48, L1_49, rfl, hs47, ho50, hd51⟩
     replace hs47 := St.lend (St.perm hs43 (L' := L39 ++ _) (perm_front (A := [_, _, _, _]) (List.Perm.refl _))) hs47
     refine ⟨_, rfl, ?_⟩
     replace hs47 := St.back [_, _, _, _] hs47
     have hkp := hd51
     refine WL.st tbk hs47 0 rfl rfl (fun _ hs52 => ?_)
     refine WL.nil ?_
     refine hK46 _ _ ?_
     refine WC.region ?_
     refine WL.run tbk 3 hs52 [] rfl ⟨by omega, trivial⟩ ?_
     refine WL.nil ?_
     refine tkN ?_
     have hF53 := (St.grp1 (L1 := L1_49) [_] (St.perm (St.perm (St.perm (St.perm (St.perm (St.perm hs52 (L' := L0_8 ++ _) (perm_front (A := [_, _, _, _]) (perm_front (A := L1_49) (List.Perm.refl _)))) (L' := [_] ++ _) (perm_front (A := L0_8) (perm_front (A := [_, _, _]) (List.Perm.refl _)))) (L' := [_] ++ _) (perm_front (A := [_]) (perm_front (A := L0_8) (perm_front (A := [_, _]) (List.Perm.refl _))))) (L' := [_] ++ _) (perm_front (A := [_, _]) (perm_front (A := L0_8) (perm_front (A := [_]) (List.Perm.refl _))))) (L' := L1_49 ++ _) (perm_front (A := [_, _, _]) (perm_front (A := L0_8) (perm_front (A := [_]) (List.Perm.refl _))))) (L' := [_] ++ _) (perm_front (A := L1_49) (perm_front (A := [_, _, _]) (perm_front (A := L0_8) (List.Perm.refl _))))))
     refine ⟨⟨rfl, rfl, rfl, rfl, rfl, rfl, rfl, rfl, rfl, rfl, rfl, rfl, rfl, rfl, rfl, rfl, rfl, rfl, rfl, rfl, rfl, rfl, rfl, rfl, rfl, rfl, rfl, rfl, rfl, rfl, trivial⟩, _, hF53, _, ?_, i + 1, r48, L1_49, rfl, rfl, ?_, ?_, ?_, ho50, ⟨rfl, trivial⟩⟩
     · omega
     · omega
     · rw [hkp, p1]; exact keepOne_succ
     · intro h9; rw [hon] at h9; cases h9
    ·have qh45 := h45
     try simp only [bf, within_iff, within_not] at qh45
     have h1 : r.dat = scrSize1 s.dat h_ := by
       have h9 := h45
       unfold scrSize1
       rcases Bool.eq_false_or_eq_true s.OnAlt with ho | ho
       · rw [if_pos (show s.dat.OnAlt = true from ho), p1, p2 ho]; exact keepRows_zero (by show ((s.Back.xs.map RowR.dat).length : Int) ≤ s.Limit; rw [List.length_map]; omega)
       · rw [if_neg (show ¬ s.dat.OnAlt = true from by rw [show s.dat.OnAlt = s.OnAlt from rfl, ho]; decide), p1]
         rw [ho] at h9
         simp at h9
         congr 1; omega
     refine WC.exit ?_
     refine hK36 _ _ ?_
     refine WC.sr ?_
     refine WL.run tbk 2 hs43 [] rfl trivial ?_
     refine WL.st tbk hs43 0 rfl rfl (fun _ hs54 => ?_)
     refine WL.nil ?_
     refine WC.sr ?_
     refine WL.run tbk 2 hs54 [] rfl trivial ?_
     refine WL.st tbk hs54 0 rfl rfl (fun _ hs55 => ?_)
     refine WL.nil ?_
     refine WC.sr ?_
     refine WL.run tbk 5 hs55 [1, 3] rfl ⟨by omega, rfl, rfl, trivial⟩ ?_
     refine WL.call rfl rfl rfl (Run.call Tryz.call132 rfl rfl rfl) (c_spec_GridPaste r0_7 s.Main _ _ _ (ownGridR.ok (B := 549755813888) ho9 (fun p_ hp_ => (hs55.own p_ (List.mem_append_right [_, _, _, _] (List.mem_append_right _ (List.mem_append_left _ hp_)))).1) (by rw [hd0_10]; assumption)) (okGridR.st0 f_s.Main hs55) ?_ ?_ ?_ ?_) ?_
     · first | (first | assumption | rfl | omega) | (first | assumption | omega | (rw [hrM]; assumption) | (rw [hgd, hgr]; exact gridOk_new hs))
     · first | (first | assumption | rfl | omega) | (first | assumption | omega | (rw [hrM]; assumption) | (rw [hgd, hgr]; exact gridOk_new hs))
     · first | (first | assumption | rfl | omega) | (first | assumption | omega | (rw [hrM]; assumption) | (rw [hgd, hgr]; exact gridOk_new hs))
     · first | (first | assumption | rfl | omega) | (first | assumption | omega | (rw [hrM]; assumption) | (rw [hgd, hgr]; exact gridOk_new hs))
     rintro _ whs56 ⟨r57, L1_58, rfl, hs56, ho59, hd60⟩
     replace hs56 := hs55.callF hs56
     refine ⟨_, rfl, ?_⟩
     replace hs56 := St.back [_, _, _, _] hs56
     have hM1 := hd60
     refine WL.run tbk 1 hs56 [] rfl trivial ?_
     refine WL.st tbk hs56 0 rfl rfl (fun _ hs61 => ?_)
     refine WL.nil ?_
     refine WC.sr ?_
     refine WL.run tbk 5 hs61 [1, 3] rfl ⟨by omega, rfl, rfl, trivial⟩ ?_
     refine WL.call rfl rfl rfl (Run.call Tryz.call132 rfl rfl rfl) (c_spec_GridPaste r0_7 s.Alt _ _ _ (ownGridR.ok (B := 549755813888) ho9 (fun p_ hp_ => (hs61.own p_ (List.mem_append_right [_, _, _, _] (List.mem_append_right _ (List.mem_append_right _ (List.mem_append_left _ hp_))))).1) (by rw [hd0_10]; assumption)) (okGridR.st0 f_s.Alt hs61) ?_ ?_ ?_ ?_) ?_
     · first | (first | assumption | rfl | omega) | (first | assumption | omega | (rw [hrM]; assumption) | (rw [hgd, hgr]; exact gridOk_new hs))
     · first | (first | assumption | rfl | omega) | (first | assumption | omega | (rw [hrM]; assumption) | (rw [hgd, hgr]; exact gridOk_new hs))
     · first | (first | assumption | rfl | omega) | (first | assumption | omega | (rw [hrM]; assumption) | (rw [hgd, hgr]; exact gridOk_new hs))
     · first | (first | assumption | rfl | omega) | (first | assumption | omega | (rw [hrM]; assumption) | (rw [hgd, hgr]; exact gridOk_new hs))
     rintro _ whs62 ⟨r63, L1_64, rfl, hs62, ho65, hd66⟩
     replace hs62 := hs61.callF hs62
     refine ⟨_, rfl, ?_⟩
     replace hs62 := St.back [_, _, _, _] hs62
     have hA1 := hd66
     refine WL.run tbk 1 hs62 [] rfl trivial ?_
     refine WL.st tbk hs62 0 rfl rfl (fun _ hs67 => ?_)
     refine WL.nil ?_
     refine WC.sr ?_
     refine WL.run tbk 4 hs67 [3] rfl ⟨by omega, rfl, trivial⟩ ?_
     refine WL.call rfl rfl rfl (Run.call Tryz.call133 rfl rfl rfl) (c_spec_l02Clamp _ _ _) ?_
     rintro _ whs68 ⟨rfl, hs68⟩
     replace hs68 := hs67.call0 hs68
     refine ⟨_, rfl, ?_⟩
     refine WL.run tbk 1 hs68 [] rfl trivial ?_
     refine WL.st tbk hs68 0 rfl rfl (fun _ hs69 => ?_)
     refine WL.nil ?_
     refine WC.sr ?_
     refine WL.run tbk 5 hs69 [3] rfl ⟨by omega, rfl, trivial⟩ ?_
     refine WL.st tbk hs69 0 rfl rfl (fun _ hs70 => ?_)
     refine WL.nil ?_
     refine WC.sr ?_
     refine WL.run tbk 1 hs70 [] rfl trivial ?_
     refine WL.st tbk hs70 0 rfl rfl (fun _ hs71 => ?_)
     refine WL.nil ?_
     refine WC.sr ?_
     refine WL.run tbk 1 hs71 [] rfl trivial ?_
     refine WL.st tbk hs71 0 rfl rfl (fun _ hs72 => ?_)
     refine WL.nil ?_
     refine WC.sr ?_
     refine WL.run tbk 3 hs72 [] rfl ⟨by omega, trivial⟩ ?_
     refine WL.st tbk hs72 0 rfl rfl (fun _ hs73 => ?_)
     refine WL.nil ?_
     refine WC.sr ?_
     refine WL.run tbk 1 hs73 [] rfl trivial ?_
     refine WL.call rfl rfl rfl (Run.call Tryz.call134 rfl rfl rfl) (c_spec_l09Tabs _ _ ?_) ?_
     · first | (first | assumption | rfl | omega) | (first | assumption | omega | (rw [hrM]; assumption) | (rw [hgd, hgr]; exact gridOk_new hs))
     rintro _ whs74 ⟨A75, c76, L1_77, rfl, hs74, ho78⟩
     replace hs74 := hs73.callF hs74
     refine ⟨_, rfl, ?_⟩
     replace hs74 := St.back [_, _, _, _] hs74
     refine WL.run tbk 1 hs74 [] rfl trivial ?_
     refine WL.st tbk hs74 0 rfl rfl (fun _ hs79 => ?_)
     refine WL.nil ?_
     refine WC.sr ?_
     refine WL.run tbk 4 hs79 [3] rfl ⟨by omega, rfl, trivial⟩ ?_
     refine WL.call rfl rfl rfl (Run.call Tryz.call133 rfl rfl rfl) (c_spec_l02Clamp _ _ _) ?_
     rintro _ whs80 ⟨rfl, hs80⟩
     replace hs80 := hs79.call0 hs80
     refine ⟨_, rfl, ?_⟩
     refine WL.run tbk 1 hs80 [] rfl trivial ?_
     refine WL.st tbk hs80 0 rfl rfl (fun _ hs81 => ?_)
     refine WL.nil ?_
     refine WC.sr ?_
     refine WL.run tbk 4 hs81 [3] rfl ⟨by omega, rfl, trivial⟩ ?_
     refine WL.call rfl rfl rfl (Run.call Tryz.call133 rfl rfl rfl) (c_spec_l02Clamp _ _ _) ?_
     rintro _ whs82 ⟨rfl, hs82⟩
     replace hs82 := hs81.call0 hs82
     refine ⟨_, rfl, ?_⟩
     refine WL.run tbk 1 hs82 [] rfl trivial ?_
     refine WL.st tbk hs82 0 rfl rfl (fun _ hs83 => ?_)
     refine WL.nil ?_
     refine WC.sr ?_
     refine WL.run tbk 1 hs83 [0] rfl ⟨rfl, trivial⟩ ?_
     refine WL.st tbk hs83 2 rfl rfl (fun _ hs84 => ?_)
     refine WL.run tbk 1 hs84 [] rfl trivial ?_
     refine WL.nil ?_
     refine WC.ret ?_
     refine retV2 rfl (resV.cellA tbk hs84 2 rfl rfl rfl rfl) (resV.tmp rfl) ?_
     have hv : scrSizeRes s.dat w_ h_ = scrSizeOf s.dat w_ h_ := by unfold scrSizeRes; rw [hk]; rfl
     rw [hk]
     obtain ⟨L85, L86, L87, L88, hs93, ho89, ho90, ho91, ho92⟩ := ownScrR.open_ (St.perm hs84 (L' := L39 ++ _) (perm_front (A := [_, _, _, _]) (perm_front (A := L1_77) (perm_front (A := L1_64) (perm_front (A := L1_58) (List.Perm.refl _)))))) ho40
     have hs94 := (St.perm (St.perm (St.perm (St.perm hs93 (L' := [_] ++ _) (perm_front (A := L85) (perm_front (A := L86) (perm_front (A := L87) (perm_front (A := L88) (perm_front (A := [_, _, _]) (List.Perm.refl _))))))) (L' := [_] ++ _) (perm_front (A := [_]) (perm_front (A := L85) (perm_front (A := L86) (perm_front (A := L87) (perm_front (A := L88) (perm_front (A := [_, _]) (List.Perm.refl _)))))))) (L' := [_] ++ _) (perm_front (A := [_, _]) (perm_front (A := L85) (perm_front (A := L86) (perm_front (A := L87) (perm_front (A := L88) (perm_front (A := [_]) (List.Perm.refl _)))))))) (L' := [_] ++ _) (perm_front (A := [_, _, _]) (perm_front (A := L85) (perm_front (A := L86) (perm_front (A := L87) (perm_front (A := L88) (List.Perm.refl _)))))))
     obtain ⟨L96, hs95, ho97⟩ := ownScrR.fold ⟨0, 0, ⟨0, 0, ⟨_, _, _, _⟩⟩, ⟨0, 0, ⟨_, _, _, _⟩⟩, false, 0, 0, false, ⟨0, 0, false, false, false⟩, 0, 0, false, false, 0, 0, ⟨0, 0, false, false, false⟩, ⟨_, _, _, _⟩, 0, ⟨_, _, _, _⟩⟩ (St.perm (St.perm (St.perm (St.perm hs94 (L' := L88 ++ _) (perm_front (A := [_, _, _, _]) (perm_front (A := L85) (perm_front (A := L86) (perm_front (A := L87) (List.Perm.refl _)))))) (L' := L1_77 ++ _) (perm_front (A := L88) (perm_front (A := [_, _, _, _]) (perm_front (A := L85) (perm_front (A := L86) (perm_front (A := L87) (List.Perm.refl _))))))) (L' := L1_64 ++ _) (perm_front (A := L1_77) (perm_front (A := L88) (perm_front (A := [_, _, _, _]) (perm_front (A := L85) (perm_front (A := L86) (perm_front (A := L87) (List.Perm.refl _)))))))) (L' := L1_58 ++ _) (perm_front (A := L1_64) (perm_front (A := L1_77) (perm_front (A := L88) (perm_front (A := [_, _, _, _]) (perm_front (A := L85) (perm_front (A := L86) (perm_front (A := L87) (List.Perm.refl _))))))))) ho59 ho65 ho78 ho92
     have hs98 := (St.perm (St.perm (St.perm (St.perm hs95 (L' := [_] ++ _) (perm_front (A := L96) (perm_front (A := [_, _, _]) (List.Perm.refl _)))) (L' := [_] ++ _) (perm_front (A := [_]) (perm_front (A := L96) (perm_front (A := [_, _]) (List.Perm.refl _))))) (L' := [_] ++ _) (perm_front (A := [_, _]) (perm_front (A := L96) (perm_front (A := [_]) (List.Perm.refl _))))) (L' := [_] ++ _) (perm_front (A := [_, _, _]) (perm_front (A := L96) (List.Perm.refl _))))
     refine ⟨⟨w_, h_, ⟨r57.W, r57.H, SlD.of ho59⟩, ⟨r63.W, r63.H, SlD.of ho65⟩, r.OnAlt, _, (s.Y - (0)), false, ⟨r.A.Fg, r.A.Bg, r.A.Bold, r.A.Under, r.A.Turn⟩, (0), (h_ - (1)), r.NoWrap, r.Hide, _, _, ⟨r.SaveA.Fg, r.SaveA.Bg, r.SaveA.Bold, r.SaveA.Under, r.SaveA.Turn⟩, SlD.of ho78, r.Limit, SlD.ofN ho92⟩, _, rfl, (St.keep1 (St.perm hs98 (L' := L96 ++ _) (perm_front (A := [_, _, _, _]) (List.Perm.refl _)))), ?_, ?_⟩
     · exact (by exact ho97)
     · rw [hv, show scrSizeOf s.dat w_ h_ = { scrSize1 s.dat h_ with W := w_, H := h_, Main := gPaste (gridNew w_ h_) s.dat.Main 0 (-sizeD s.dat h_), Alt := gPaste (gridNew w_ h_) s.dat.Alt 0 (-sizeD s.dat h_), X := min s.dat.X (w_ - 1), Y := s.dat.Y - sizeD s.dat h_, Wrap := false, Top := 0, Bot := h_ - 1, Tabs := tabsL w_, SaveX := min s.dat.SaveX (w_ - 1), SaveY := min s.dat.SaveY (h_ - 1) } from rfl, ← h1, hD]; exact ScrD.ext' rfl rfl (hM1.trans (by rw [hgd, hgr]; rfl)) (hA1.trans (by rw [hgd, hgr]; rfl)) rfl (if_neg (by omega)) rfl rfl rfl rfl rfl rfl rfl (if_neg (by omega)) (if_neg (by omega)) rfl rfl rfl rfl
  ·have qh35 := h35
   try simp only [bf, within_iff, within_not] at qh35
   have hD : sizeD s.dat h_ = s.Y - h_ + 1 := by unfold sizeD; show max 0 (s.Y - h_ + 1) = _; omega
   refine WC.skip ?_
   refine hK34 _ _ ?_
   refine WC.seq (fun K99 hK99 => ?_)
   refine WC.rr tbk hs33 [] rfl trivial ?_
   refine WC.block ?_
   have hM104 := (St.grp1 (L1 := L1_28) [_] (St.perm (St.perm (St.perm (St.perm (St.perm (St.perm hs33 (L' := L0_8 ++ _) (perm_front (A := [_, _, _, _]) (perm_front (A := L1_28) (List.Perm.refl _)))) (L' := [_] ++ _) (perm_front (A := L0_8) (perm_front (A := [_, _, _]) (List.Perm.refl _)))) (L' := [_] ++ _) (perm_front (A := [_]) (perm_front (A := L0_8) (perm_front (A := [_, _]) (List.Perm.refl _))))) (L' := [_] ++ _) (perm_front (A := [_, _]) (perm_front (A := L0_8) (perm_front (A := [_]) (List.Perm.refl _))))) (L' := L1_28 ++ _) (perm_front (A := [_, _, _]) (perm_front (A := L0_8) (perm_front (A := [_]) (List.Perm.refl _))))) (L' := [_] ++ _) (perm_front (A := L1_28) (perm_front (A := [_, _, _]) (perm_front (A := L0_8) (List.Perm.refl _))))))
   refine WC.loopV (α := Hp) [(0, _), (1, _), (2, _), (3, _), (6, _), (7, _), (8, _), (9, _), (10, _), (11, _), (13, _), (14, _), (15, _), (16, _), (17, _), (18, _), (19, _), (20, _), (21, _), (22, _), (25, _), (27, _), (28, _), (29, _), (30, _), (31, _), (32, _), (33, _), (34, _), (35, _)] ⟨rfl, rfl, rfl, rfl, rfl, rfl, rfl, rfl, rfl, rfl, rfl, rfl, rfl, rfl, rfl, rfl, rfl, rfl, rfl, rfl, rfl, rfl, rfl, rfl, rfl, rfl, rfl, rfl, rfl, rfl, trivial⟩ (fun a_ => a_) _ hM104 (fun k_ (a_ : Hp) f => ∃ (i : Nat) (r : ScrR) (L102 : Hp), k_ = (sizeD s.dat h_).toNat - i ∧ a_ = [(b31, .cells (List.toArray [i64 r.W, i64 r.H, i64 r.Main.W, i64 r.Main.H, .slice r.Main.Cells.A r.Main.Cells.n r.Main.Cells.c, i64 r.Alt.W, i64 r.Alt.H, .slice r.Alt.Cells.A r.Alt.Cells.n r.Alt.Cells.c, .bool r.OnAlt, i64 r.X, i64 r.Y, .bool r.Wrap, i64 r.A.Fg, i64 r.A.Bg, .bool r.A.Bold, .bool r.A.Under, .bool r.A.Turn, i64 r.Top, i64 r.Bot, .bool r.NoWrap, .bool r.Hide, i64 r.SaveX, i64 r.SaveY, i64 r.SaveA.Fg, i64 r.SaveA.Bg, .bool r.SaveA.Bold, .bool r.SaveA.Under, .bool r.SaveA.Turn, .slice r.Tabs.A r.Tabs.n r.Tabs.c, i64 r.Limit, .slice r.Back.A r.Back.n r.Back.c]) 44 (0, 0))] ++ L102 ∧ ((i : Int) ≤ sizeD s.dat h_) ∧ (r.dat = keepRows s.dat i) ∧ (s.OnAlt = true → i = 0) ∧ ownScrR r L102 ∧ Sub [(12, .int .i64 i)] f) (((fun (i : Nat) => (sizeD s.dat h_).toNat - i) (0))) ?_ ?_
   ·refine ⟨0, r27, L1_28, rfl, rfl, ?_, ?_, ?_, ho29, ⟨rfl, trivial⟩⟩
    · omega
    · rw [hcp, keepRows_zero (by show ((s.Back.xs.map RowR.dat).length : Int) ≤ s.Limit; rw [List.length_map]; omega)]
    · exact fun _ => rfl
   ·rintro _ _ f w ⟨i, r, L102, rfl, rfl, p0, p1, p2, ho103, hG⟩ hF hs105
    refine WC.sub _ (hG.app hF) ?_
    clear hG hF
    replace hs105 := St.ungrp1 [_] hs105
    have hs106 := (St.perm (St.perm (St.perm (St.perm hs105 (L' := [_] ++ _) (perm_front (A := [_]) (perm_front (A := L102) (perm_front (A := [_, _]) (List.Perm.refl _))))) (L' := [_] ++ _) (perm_front (A := [_, _]) (perm_front (A := L102) (perm_front (A := [_]) (List.Perm.refl _))))) (L' := [_] ++ _) (perm_front (A := [_, _, _]) (perm_front (A := L102) (List.Perm.refl _)))) (L' := [_] ++ _) (perm_front (A := [_, _, _]) (List.Perm.refl _)))
    have hsmr : smScr 549755813888 r.dat := by rw [p1]; exact keepRows_sm hsmB hm (by decide) (by show s.Limit.toNat ≤ _; omega)
    have hrM : r.Main.dat = s.Main.dat := congrArg ScrD.Main p1
    have hrW : r.W = s.W := congrArg ScrD.W p1
    have hrL : r.Limit = s.Limit := congrArg ScrD.Limit p1
    have hrH : r.Main.H = s.Main.H := congrArg GridD.H hrM
    have hrV : r.Main.W = s.Main.W := congrArg GridD.W hrM
    have hrB : (r.Back.xs.length : Int) ≤ s.Limit := by have h9 := congrArg (fun d : ScrD => d.Back.length) p1; simp only [ScrR.dat, keepRows, lastN_len, List.length_map] at h9; omega
    refine WC.seq (fun K107 hK107 => ?_)
    refine WC.sr ?_
    refine WL.run tbk 4 hs106 [] rfl trivial ?_
    refine WL.pA tbk 3 Acts.nil hs106 [3] rfl rfl rfl rfl (fun g_ => ⟨rfl, trivial⟩) ?_
    refine WL.nil ?_
    refine WC.cond rfl (fun h108 => ?_) (fun h108 => ?_)
    ·have qh108 := h108
     try simp only [bf, within_iff, within_not] at qh108
     have hlt : (i : Int) < sizeD s.dat h_ := by have h9 := h108; rw [hD]; simp at h9; omega
     have hon : s.OnAlt = false := by have h9 := h108; simp at h9; exact h9.2
     refine WC.skip ?_
     refine hK107 _ _ ?_
     refine WC.seq (fun K109 hK109 => ?_)
     refine WC.block ?_
     refine WC.region ?_
     refine WL.run tbk 2 hs106 [0] rfl ⟨rfl, trivial⟩ ?_
     refine WL.call rfl rfl rfl (Run.call Tryz.call131 rfl rfl rfl) (c_spec_l09Keep r _ _ _ ho103 (fun p_ hp_ => (hs106.own p_ (List.mem_append_right [_, _, _, _] (List.mem_append_left _ hp_))).1) (St.nodupL (St.perm hs106 (L' := L102 ++ _) (perm_front (A := [_, _, _, _]) (List.Perm.refl _)))) ?_ ?_ ?_ ?_ ?_ ?_) ?_
     · first | (first | assumption | rfl | omega) | (first | assumption | omega | (rw [hrM]; assumption) | (rw [hgd, hgr]; exact gridOk_new hs))
     · first | (first | assumption | rfl | omega) | (first | assumption | omega | (rw [hrM]; assumption) | (rw [hgd, hgr]; exact gridOk_new hs))
     · first | (first | assumption | rfl | omega) | (first | assumption | omega | (rw [hrM]; assumption) | (rw [hgd, hgr]; exact gridOk_new hs))
     · first | (first | assumption | rfl | omega) | (first | assumption | omega | (rw [hrM]; assumption) | (rw [hgd, hgr]; exact gridOk_new hs))
     · first | (first | assumption | rfl | omega) | (first | assumption | omega | (rw [hrM]; assumption) | (rw [hgd, hgr]; exact gridOk_new hs))
     · first | (first | assumption | rfl | omega) | (first | assumption | omega | (rw [hrM]; assumption) | (rw [hgd, hgr]; exact gridOk_new hs))
     rintro _ whs110 ⟨r111, L1_112, rfl, hs110, ho113, hd114⟩
     replace hs110 := St.lend (St.perm hs106 (L' := L102 ++ _) (perm_front (A := [_, _, _, _]) (List.Perm.refl _))) hs110
     refine ⟨_, rfl, ?_⟩
     replace hs110 := St.back [_, _, _, _] hs110
     have hkp := hd114
     refine WL.st tbk hs110 0 rfl rfl (fun _ hs115 => ?_)
     refine WL.nil ?_
     refine hK109 _ _ ?_
     refine WC.region ?_
     refine WL.run tbk 3 hs115 [] rfl ⟨by omega, trivial⟩ ?_
     refine WL.nil ?_
     refine tkN ?_
     have hF116 := (St.grp1 (L1 := L1_112) [_] (St.perm (St.perm (St.perm (St.perm (St.perm (St.perm hs115 (L' := L0_8 ++ _) (perm_front (A := [_, _, _, _]) (perm_front (A := L1_112) (List.Perm.refl _)))) (L' := [_] ++ _) (perm_front (A := L0_8) (perm_front (A := [_, _, _]) (List.Perm.refl _)))) (L' := [_] ++ _) (perm_front (A := [_]) (perm_front (A := L0_8) (perm_front (A := [_, _]) (List.Perm.refl _))))) (L' := [_] ++ _) (perm_front (A := [_, _]) (perm_front (A := L0_8) (perm_front (A := [_]) (List.Perm.refl _))))) (L' := L1_112 ++ _) (perm_front (A := [_, _, _]) (perm_front (A := L0_8) (perm_front (A := [_]) (List.Perm.refl _))))) (L' := [_] ++ _) (perm_front (A := L1_112) (perm_front (A := [_, _, _]) (perm_front (A := L0_8) (List.Perm.refl _))))))
     refine ⟨⟨rfl, rfl, rfl, rfl, rfl, rfl, rfl, rfl, rfl, rfl, rfl, rfl, rfl, rfl, rfl, rfl, rfl, rfl, rfl, rfl, rfl, rfl, rfl, rfl, rfl, rfl, rfl, rfl, rfl, rfl, trivial⟩, _, hF116, _, ?_, i + 1, r111, L1_112, rfl, rfl, ?_, ?_, ?_, ho113, ⟨rfl, trivial⟩⟩
     · omega
     · omega
     · rw [hkp, p1]; exact keepOne_succ
     · intro h9; rw [hon] at h9; cases h9
    ·have qh108 := h108
     try simp only [bf, within_iff, within_not] at qh108
     have h1 : r.dat = scrSize1 s.dat h_ := by
       have h9 := h108
       unfold scrSize1
       rcases Bool.eq_false_or_eq_true s.OnAlt with ho | ho
       · rw [if_pos (show s.dat.OnAlt = true from ho), p1, p2 ho]; exact keepRows_zero (by show ((s.Back.xs.map RowR.dat).length : Int) ≤ s.Limit; rw [List.length_map]; omega)
       · rw [if_neg (show ¬ s.dat.OnAlt = true from by rw [show s.dat.OnAlt = s.OnAlt from rfl, ho]; decide), p1]
         rw [ho] at h9
         simp at h9
         congr 1; omega
     refine WC.exit ?_
     refine hK99 _ _ ?_
     refine WC.sr ?_
     refine WL.run tbk 2 hs106 [] rfl trivial ?_
     refine WL.st tbk hs106 0 rfl rfl (fun _ hs117 => ?_)
     refine WL.nil ?_
     refine WC.sr ?_
     refine WL.run tbk 2 hs117 [] rfl trivial ?_
     refine WL.st tbk hs117 0 rfl rfl (fun _ hs118 => ?_)
     refine WL.nil ?_
     refine WC.sr ?_
     refine WL.run tbk 5 hs118 [1, 3] rfl ⟨by omega, rfl, rfl, trivial⟩ ?_
     refine WL.call rfl rfl rfl (Run.call Tryz.call132 rfl rfl rfl) (c_spec_GridPaste r0_7 s.Main _ _ _ (ownGridR.ok (B := 549755813888) ho9 (fun p_ hp_ => (hs118.own p_ (List.mem_append_right [_, _, _, _] (List.mem_append_right _ (List.mem_append_left _ hp_)))).1) (by rw [hd0_10]; assumption)) (okGridR.st0 f_s.Main hs118) ?_ ?_ ?_ ?_) ?_
     · first | (first | assumption | rfl | omega) | (first | assumption | omega | (rw [hrM]; assumption) | (rw [hgd, hgr]; exact gridOk_new hs))
     · first | (first | assumption | rfl | omega) | (first | assumption | omega | (rw [hrM]; assumption) | (rw [hgd, hgr]; exact gridOk_new hs))
     · first | (first | assumption | rfl | omega) | (first | assumption | omega | (rw [hrM]; assumption) | (rw [hgd, hgr]; exact gridOk_new hs))
     · first | (first | assumption | rfl | omega) | (first | assumption | omega | (rw [hrM]; assumption) | (rw [hgd, hgr]; exact gridOk_new hs))
     rintro _ whs119 ⟨r120, L1_121, rfl, hs119, ho122, hd123⟩
     replace hs119 := hs118.callF hs119
     refine ⟨_, rfl, ?_⟩
     replace hs119 := St.back [_, _, _, _] hs119
     have hM1 := hd123
     refine WL.run tbk 1 hs119 [] rfl trivial ?_
     refine WL.st tbk hs119 0 rfl rfl (fun _ hs124 => ?_)
     refine WL.nil ?_
     refine WC.sr ?_
     refine WL.run tbk 5 hs124 [1, 3] rfl ⟨by omega, rfl, rfl, trivial⟩ ?_
     refine WL.call rfl rfl rfl (Run.call Tryz.call132 rfl rfl rfl) (c_spec_GridPaste r0_7 s.Alt _ _ _ (ownGridR.ok (B := 549755813888) ho9 (fun p_ hp_ => (hs124.own p_ (List.mem_append_right [_, _, _, _] (List.mem_append_right _ (List.mem_append_right _ (List.mem_append_left _ hp_))))).1) (by rw [hd0_10]; assumption)) (okGridR.st0 f_s.Alt hs124) ?_ ?_ ?_ ?_) ?_
     · first | (first | assumption | rfl | omega) | (first | assumption | omega | (rw [hrM]; assumption) | (rw [hgd, hgr]; exact gridOk_new hs))
     · first | (first | assumption | rfl | omega) | (first | assumption | omega | (rw [hrM]; assumption) | (rw [hgd, hgr]; exact gridOk_new hs))
     · first | (first | assumption | rfl | omega) | (first | assumption | omega | (rw [hrM]; assumption) | (rw [hgd, hgr]; exact gridOk_new hs))
     · first | (first | assumption | rfl | omega) | (first | assumption | omega | (rw [hrM]; assumption) | (rw [hgd, hgr]; exact gridOk_new hs))
     rintro _ whs125 ⟨r126, L1_127, rfl, hs125, ho128, hd129⟩
     replace hs125 := hs124.callF hs125
     refine ⟨_, rfl, ?_⟩
     replace hs125 := St.back [_, _, _, _] hs125
     have hA1 := hd129
     refine WL.run tbk 1 hs125 [] rfl trivial ?_
     refine WL.st tbk hs125 0 rfl rfl (fun _ hs130 => ?_)
     refine WL.nil ?_
     refine WC.sr ?_
     refine WL.run tbk 4 hs130 [3] rfl ⟨by omega, rfl, trivial⟩ ?_
     refine WL.call rfl rfl rfl (Run.call Tryz.call133 rfl rfl rfl) (c_spec_l02Clamp _ _ _) ?_
     rintro _ whs131 ⟨rfl, hs131⟩
     replace hs131 := hs130.call0 hs131
     refine ⟨_, rfl, ?_⟩
     refine WL.run tbk 1 hs131 [] rfl trivial ?_
     refine WL.st tbk hs131 0 rfl rfl (fun _ hs132 => ?_)
     refine WL.nil ?_
     refine WC.sr ?_
     refine WL.run tbk 5 hs132 [3] rfl ⟨by omega, rfl, trivial⟩ ?_
     refine WL.st tbk hs132 0 rfl rfl (fun _ hs133 => ?_)
     refine WL.nil ?_
     refine WC.sr ?_
     refine WL.run tbk 1 hs133 [] rfl trivial ?_
     refine WL.st tbk hs133 0 rfl rfl (fun _ hs134 => ?_)
     refine WL.nil ?_
     refine WC.sr ?_
     refine WL.run tbk 1 hs134 [] rfl trivial ?_
     refine WL.st tbk hs134 0 rfl rfl (fun _ hs135 => ?_)
     refine WL.nil ?_
     refine WC.sr ?_
     refine WL.run tbk 3 hs135 [] rfl ⟨by omega, trivial⟩ ?_
     refine WL.st tbk hs135 0 rfl rfl (fun _ hs136 => ?_)
     refine WL.nil ?_
     refine WC.sr ?_
     refine WL.run tbk 1 hs136 [] rfl trivial ?_
     refine WL.call rfl rfl rfl (Run.call Tryz.call134 rfl rfl rfl) (c_spec_l09Tabs _ _ ?_) ?_
     · first | (first | assumption | rfl | omega) | (first | assumption | omega | (rw [hrM]; assumption) | (rw [hgd, hgr]; exact gridOk_new hs))
     rintro _ whs137 ⟨A138, c139, L1_140, rfl, hs137, ho141⟩
     replace hs137 := hs136.callF hs137
     refine ⟨_, rfl, ?_⟩
     replace hs137 := St.back [_, _, _, _] hs137
     refine WL.run tbk 1 hs137 [] rfl trivial ?_
     refine WL.st tbk hs137 0 rfl rfl (fun _ hs142 => ?_)
     refine WL.nil ?_
     refine WC.sr ?_
     refine WL.run tbk 4 hs142 [3] rfl ⟨by omega, rfl, trivial⟩ ?_
     refine WL.call rfl rfl rfl (Run.call Tryz.call133 rfl rfl rfl) (c_spec_l02Clamp _ _ _) ?_
     rintro _ whs143 ⟨rfl, hs143⟩
     replace hs143 := hs142.call0 hs143
     refine ⟨_, rfl, ?_⟩
     refine WL.run tbk 1 hs143 [] rfl trivial ?_
     refine WL.st tbk hs143 0 rfl rfl (fun _ hs144 => ?_)
     refine WL.nil ?_
     refine WC.sr ?_
     refine WL.run tbk 4 hs144 [3] rfl ⟨by omega, rfl, trivial⟩ ?_
     refine WL.call rfl rfl rfl (Run.call Tryz.call133 rfl rfl rfl) (c_spec_l02Clamp _ _ _) ?_
     rintro _ whs145 ⟨rfl, hs145⟩
     replace hs145 := hs144.call0 hs145
     refine ⟨_, rfl, ?_⟩
     refine WL.run tbk 1 hs145 [] rfl trivial ?_
     refine WL.st tbk hs145 0 rfl rfl (fun _ hs146 => ?_)
     refine WL.nil ?_
     refine WC.sr ?_
     refine WL.run tbk 1 hs146 [0] rfl ⟨rfl, trivial⟩ ?_
     refine WL.st tbk hs146 2 rfl rfl (fun _ hs147 => ?_)
     refine WL.run tbk 1 hs147 [] rfl trivial ?_
     refine WL.nil ?_
     refine WC.ret ?_
     refine retV2 rfl (resV.cellA tbk hs147 2 rfl rfl rfl rfl) (resV.tmp rfl) ?_
     have hv : scrSizeRes s.dat w_ h_ = scrSizeOf s.dat w_ h_ := by unfold scrSizeRes; rw [hk]; rfl
     rw [hk]
     obtain ⟨L148, L149, L150, L151, hs156, ho152, ho153, ho154, ho155⟩ := ownScrR.open_ (St.perm hs147 (L' := L102 ++ _) (perm_front (A := [_, _, _, _]) (perm_front (A := L1_140) (perm_front (A := L1_127) (perm_front (A := L1_121) (List.Perm.refl _)))))) ho103
     have hs157 := (St.perm (St.perm (St.perm (St.perm hs156 (L' := [_] ++ _) (perm_front (A := L148) (perm_front (A := L149) (perm_front (A := L150) (perm_front (A := L151) (perm_front (A := [_, _, _]) (List.Perm.refl _))))))) (L' := [_] ++ _) (perm_front (A := [_]) (perm_front (A := L148) (perm_front (A := L149) (perm_front (A := L150) (perm_front (A := L151) (perm_front (A := [_, _]) (List.Perm.refl _)))))))) (L' := [_] ++ _) (perm_front (A := [_, _]) (perm_front (A := L148) (perm_front (A := L149) (perm_front (A := L150) (perm_front (A := L151) (perm_front (A := [_]) (List.Perm.refl _)))))))) (L' := [_] ++ _) (perm_front (A := [_, _, _]) (perm_front (A := L148) (perm_front (A := L149) (perm_front (A := L150) (perm_front (A := L151) (List.Perm.refl _)))))))
     obtain ⟨L159, hs158, ho160⟩ := ownScrR.fold ⟨0, 0, ⟨0, 0, ⟨_, _, _, _⟩⟩, ⟨0, 0, ⟨_, _, _, _⟩⟩, false, 0, 0, false, ⟨0, 0, false, false, false⟩, 0, 0, false, false, 0, 0, ⟨0, 0, false, false, false⟩, ⟨_, _, _, _⟩, 0, ⟨_, _, _, _⟩⟩ (St.perm (St.perm (St.perm (St.perm hs157 (L' := L151 ++ _) (perm_front (A := [_, _, _, _]) (perm_front (A := L148) (perm_front (A := L149) (perm_front (A := L150) (List.Perm.refl _)))))) (L' := L1_140 ++ _) (perm_front (A := L151) (perm_front (A := [_, _, _, _]) (perm_front (A := L148) (perm_front (A := L149) (perm_front (A := L150) (List.Perm.refl _))))))) (L' := L1_127 ++ _) (perm_front (A := L1_140) (perm_front (A := L151) (perm_front (A := [_, _, _, _]) (perm_front (A := L148) (perm_front (A := L149) (perm_front (A := L150) (List.Perm.refl _)))))))) (L' := L1_121 ++ _) (perm_front (A := L1_127) (perm_front (A := L1_140) (perm_front (A := L151) (perm_front (A := [_, _, _, _]) (perm_front (A := L148) (perm_front (A := L149) (perm_front (A := L150) (List.Perm.refl _))))))))) ho122 ho128 ho141 ho155
     have hs161 := (St.perm (St.perm (St.perm (St.perm hs158 (L' := [_] ++ _) (perm_front (A := L159) (perm_front (A := [_, _, _]) (List.Perm.refl _)))) (L' := [_] ++ _) (perm_front (A := [_]) (perm_front (A := L159) (perm_front (A := [_, _]) (List.Perm.refl _))))) (L' := [_] ++ _) (perm_front (A := [_, _]) (perm_front (A := L159) (perm_front (A := [_]) (List.Perm.refl _))))) (L' := [_] ++ _) (perm_front (A := [_, _, _]) (perm_front (A := L159) (List.Perm.refl _))))
     refine ⟨⟨w_, h_, ⟨r120.W, r120.H, SlD.of ho122⟩, ⟨r126.W, r126.H, SlD.of ho128⟩, r.OnAlt, _, (s.Y - ((s.Y - h_) + (1))), false, ⟨r.A.Fg, r.A.Bg, r.A.Bold, r.A.Under, r.A.Turn⟩, (0), (h_ - (1)), r.NoWrap, r.Hide, _, _, ⟨r.SaveA.Fg, r.SaveA.Bg, r.SaveA.Bold, r.SaveA.Under, r.SaveA.Turn⟩, SlD.of ho141, r.Limit, SlD.ofN ho155⟩, _, rfl, (St.keep1 (St.perm hs161 (L' := L159 ++ _) (perm_front (A := [_, _, _, _]) (List.Perm.refl _)))), ?_, ?_⟩
     · exact (by exact ho160)
     · rw [hv, show scrSizeOf s.dat w_ h_ = { scrSize1 s.dat h_ with W := w_, H := h_, Main := gPaste (gridNew w_ h_) s.dat.Main 0 (-sizeD s.dat h_), Alt := gPaste (gridNew w_ h_) s.dat.Alt 0 (-sizeD s.dat h_), X := min s.dat.X (w_ - 1), Y := s.dat.Y - sizeD s.dat h_, Wrap := false, Top := 0, Bot := h_ - 1, Tabs := tabsL w_, SaveX := min s.dat.SaveX (w_ - 1), SaveY := min s.dat.SaveY (h_ - 1) } from rfl, ← h1, hD]; exact ScrD.ext' rfl rfl (hM1.trans (by rw [hgd, hgr]; rfl)) (hA1.trans (by rw [hgd, hgr]; rfl)) rfl (if_neg (by omega)) rfl rfl rfl rfl rfl rfl rfl (if_neg (by omega)) (if_neg (by omega)) rfl rfl rfl rfl
end Go.Proofs.YtlmcekfdlgkffaaGreat
