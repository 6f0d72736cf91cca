/-
  The statement: for every input the law returns true. No condition. (And what it stands on, the last part.)
-/
import Derived.Test.YtjmegoiclgancaaGreatKS5
namespace Go.Proofs.YtjmegoiclgancaaGreat
open Go Go.RowKit
set_option linter.unusedVariables false
set_option linter.unusedSimpArgs false
theorem k121_ (b_s : Nat) (s : ScrR) (L_s : Hp) (b_b : Nat) (b : Int) (w : World) (hb_s : w.heap[b_s]? = some (Obj.cells (List.toArray [i64 s.W, i64 s.H, i64 s.Main.W, i64 s.Main.H, .slice s.Main.Cells.A s.Main.Cells.n s.Main.Cells.c, i64 s.Alt.W, i64 s.Alt.H, .slice s.Alt.Cells.A s.Alt.Cells.n s.Alt.Cells.c, .bool s.OnAlt, i64 s.X, i64 s.Y, .bool s.Wrap, i64 s.A.Fg, i64 s.A.Bg, .bool s.A.Bold, .bool s.A.Under, .bool s.A.Turn, i64 s.Top, i64 s.Bot, .bool s.NoWrap, .bool s.Hide, i64 s.SaveX, i64 s.SaveY, i64 s.SaveA.Fg, i64 s.SaveA.Bg, .bool s.SaveA.Bold, .bool s.SaveA.Under, .bool s.SaveA.Turn, .slice s.Tabs.A s.Tabs.n s.Tabs.c, i64 s.Limit, .slice s.Back.A s.Back.n s.Back.c]) 33 (0, 0))) (o_s : ownScrR s L_s) (h_s : Hh w L_s) (f_b : SlF encI w (some ⟨b_b, 0, none⟩) 1 [b]) (s_b : 0 < 1 → (adr (some ⟨b_b, 0, none⟩)).block ∉ (b_s :: L_s.map (·.1))) (hd_ : (b_s :: L_s.map (·.1)).Nodup) (hok : scrOk s.dat = true) (hsm : smScr 1048576 s.dat) :
    Calls Tryz.prog 75 #[.pointer (some ⟨b_s, 0, none⟩), .pointer (some ⟨b_b, 0, none⟩)] w fun e w' => ∃ r L1, e = .returned (.tuple #[]) ∧ St w (b_s :: L_s.map (·.1)) ([(b_s, Obj.cells (List.toArray [i64 r.W, i64 r.H, i64 r.Main.W, i64 r.Main.H, .slice r.Main.Cells.A r.Main.Cells.n r.Main.Cells.c, i64 r.Alt.W, i64 r.Alt.H, .slice r.Alt.Cells.A r.Alt.Cells.n r.Alt.Cells.c, .bool r.OnAlt, i64 r.X, i64 r.Y, .bool r.Wrap, i64 r.A.Fg, i64 r.A.Bg, .bool r.A.Bold, .bool r.A.Under, .bool r.A.Turn, i64 r.Top, i64 r.Bot, .bool r.NoWrap, .bool r.Hide, i64 r.SaveX, i64 r.SaveY, i64 r.SaveA.Fg, i64 r.SaveA.Bg, .bool r.SaveA.Bold, .bool r.SaveA.Under, .bool r.SaveA.Turn, .slice r.Tabs.A r.Tabs.n r.Tabs.c, i64 r.Limit, .slice r.Back.A r.Back.n r.Back.c]) 33 (0, 0))] ++ L1) w' ∧ ownScrR r L1 ∧ r.dat = escD s.dat b := by
 have hsmB : smScr 549755813888 s.dat := smScr_mono hsm (by decide)
 refine enter 6 Tryz.func75 rfl Tryz.ntmps75 rfl rfl ?_
 have hs1 := St.takeP w b_s _ L_s hb_s h_s hd_
 refine WC.region (WL.r 1 hs1 [] rfl (WL.val rfl rfl rfl (Run.load Tryz.isAgg3 rfl rfl (SlF.var (SlF.st f_b hs1 s_b) rfl)) ?_))
 have hF2 := ((hs1.fr L_s).fb b_s)
 refine WL.cl Tryz.call76 rfl (k120_ _ s _ _ _ (St.headP hF2) o_s (St.ownP hF2) (St.nodupP hF2) ?_ ?_) ?_
 iterate 2 first | assumption | rfl | omega | exact ScrFine.of hok
 rintro _ whs3 ⟨r4, L5, rfl, hs3, ho6, hd7⟩
 replace hs3 := St.lendP hF2 hs3
 refine ⟨_, rfl, WL.nil (retK0 rfl (⟨r4, _, rfl, St.keepP (L1 := L5) ((hs3.fr L5).fb b_s), ho6, ?_⟩))⟩
 · exact hd7
theorem k122_ (s : ScrR) (b_b : Nat) (b : Int) (w : World) (f_s : okScrR 549755813888 w s) (f_b : SlF encI w (some ⟨b_b, 0, none⟩) 1 [b]) (hsm : smScr 1048576 s.dat) :
    Calls Tryz.prog 74 #[.agg #[i64 s.W, i64 s.H, i64 s.Main.W, i64 s.Main.H, .slice s.Main.Cells.A s.Main.Cells.n s.Main.Cells.c, i64 s.Alt.W, i64 s.Alt.H, .slice s.Alt.Cells.A s.Alt.Cells.n s.Alt.Cells.c, .bool s.OnAlt, i64 s.X, i64 s.Y, .bool s.Wrap, i64 s.A.Fg, i64 s.A.Bg, .bool s.A.Bold, .bool s.A.Under, .bool s.A.Turn, i64 s.Top, i64 s.Bot, .bool s.NoWrap, .bool s.Hide, i64 s.SaveX, i64 s.SaveY, i64 s.SaveA.Fg, i64 s.SaveA.Bg, .bool s.SaveA.Bold, .bool s.SaveA.Under, .bool s.SaveA.Turn, .slice s.Tabs.A s.Tabs.n s.Tabs.c, i64 s.Limit, .slice s.Back.A s.Back.n s.Back.c], .func (.func 75) #[] #[.pointer (some ⟨b_b, 0, none⟩)]] w fun e w' => ∃ r L1, e = .returned (.agg #[i64 r.W, i64 r.H, i64 r.Main.W, i64 r.Main.H, .slice r.Main.Cells.A r.Main.Cells.n r.Main.Cells.c, i64 r.Alt.W, i64 r.Alt.H, .slice r.Alt.Cells.A r.Alt.Cells.n r.Alt.Cells.c, .bool r.OnAlt, i64 r.X, i64 r.Y, .bool r.Wrap, i64 r.A.Fg, i64 r.A.Bg, .bool r.A.Bold, .bool r.A.Under, .bool r.A.Turn, i64 r.Top, i64 r.Bot, .bool r.NoWrap, .bool r.Hide, i64 r.SaveX, i64 r.SaveY, i64 r.SaveA.Fg, i64 r.SaveA.Bg, .bool r.SaveA.Bold, .bool r.SaveA.Under, .bool r.SaveA.Turn, .slice r.Tabs.A r.Tabs.n r.Tabs.c, i64 r.Limit, .slice r.Back.A r.Back.n r.Back.c]) ∧ St w [] L1 w' ∧ ownScrR r L1 ∧ r.dat = scrEscRes s.dat b := by
 have nb_s_Main_Cells := f_s.Main.Cells_n
 have nl_s_Main_Cells := f_s.Main.Cells.len
 have nb_s_Alt_Cells := f_s.Alt.Cells_n
 have nl_s_Alt_Cells := f_s.Alt.Cells.len
 have nb_s_Tabs := f_s.Tabs_n
 have nl_s_Tabs := f_s.Tabs.len
 have nb_s_Back := f_s.Back_n
 have nl_s_Back := f_s.Back.sl.len
 have hsmB : smScr 549755813888 s.dat := by first | assumption | exact smScr_mono hsm (by decide)
 refine enter 15 Tryz.func74 rfl Tryz.ntmps74 rfl rfl ?_
 have hs1 := St.init w
 refine WC.sr (WL.bx hs1 rfl (fun b2 _ hs3 => WL.al hs3 Tryz.zeroValue33 rfl rfl (fun b4 _ hs5 => WL.nil (WC.seq (fun K6 hK6 => WC.sr (WL.r 1 hs5 [1] rfl (WL.cl Tryz.call29 rfl (k33_ s _ (okScrR.st0 f_s hs5)) ?_)))))))
 rintro _ whs7 ⟨rfl, hs7⟩
 replace hs7 := hs5.call0 hs7
 refine ⟨_, rfl, WL.r 1 hs7 [] rfl (WL.nil (WC.cq rfl (fun h8 qh8 => ?_) (fun h8 qh8 => ?_)))⟩
 ·have hk : scrOk s.dat = false := by have h9 := h8; simpa using h9
  refine WC.sr ?_
  refine WL.val rfl rfl rfl (Run.build rfl rfl rfl rfl (built_33)) (WL.st tbk hs7 0 rfl rfl (fun _ hs9 => WL.nil (WC.ret (tkR ?_))))
  clear hK6
  refine retV1 rfl (resV.cellA tbk hs9 0 rfl rfl rfl rfl) ?_
  obtain ⟨L15, hs14, ho16⟩ := ownScrR.fl hs9 (OwnF.nil _ _) (OwnF.nil _ _) (OwnF.nil _ _) (OwnN.nil _ _ _)
  have hs17 := ((hs14.fb b2).fb b4)
  refine ownScrR.ret rfl (St.keep1 (hs17.fr L15)) ho16 ?_
  · unfold scrEscRes; rw [hk]; rfl
 have hk : scrOk s.dat = true := by have h9 := h8; simpa using h9
 have hf := ScrFine.of hk
 refine WC.skip (hK6 _ _ (WC.sr (WL.r 1 hs7 [1] rfl ?_)))
 refine WL.cl Tryz.call150 rfl (k39_ s _ (okScrR.st0 f_s hs7) ?_) ?_
 · first | assumption | rfl | omega
 rintro _ whs18 ⟨r19, L1_20, rfl, hs18, ho21, hd22⟩
 replace hs18 := hs7.callF hs18
 refine ⟨_, rfl, ?_⟩
 replace hs18 := St.back [_, _] hs18
 have hcp := hd22
 have hokc : scrOk (ScrR.dat _) = true := (congrArg scrOk hcp).trans hk
 have hsmc : smScr 1048576 (ScrR.dat _) := hcp.symm ▸ hsm
 refine WL.al hs18 Tryz.zeroValue33 rfl rfl (fun b23 _ hs24 => WL.st tbk hs24 0 rfl rfl (fun _ hs25 => WL.nil (WC.sr (WL.r 1 hs25 [] rfl ?_))))
 have hF26 := ((hs25.fr L1_20).fb b23)
 refine WL.call rfl rfl rfl (Run.callC Tryz.call75 rfl rfl rfl) (k121_ _ r19 _ _ _ _ (St.headP hF26) ho21 (St.ownP hF26) (SlF.st0 f_b hs25) (St.sepP hF26 f_b) (St.nodupP hF26) ?_ ?_) ?_
 iterate 2 first | assumption | rfl | omega
 rintro _ whs27 ⟨r28, L29, rfl, hs27, ho30, hd31⟩
 replace hs27 := St.lendP hF26 hs27
 refine ⟨_, rfl, ?_⟩
 have hs32 := (((hs27.fb b2).fb b4).fb b23)
 refine WL.nil (WC.sr (WL.r 1 hs32 [0] rfl (WL.st tbk hs32 1 rfl rfl (fun _ hs33 => WL.nil (WC.ret (retV1 rfl (resV.cellA tbk hs33 1 rfl rfl rfl rfl) ?_))))))
 refine ⟨r28, _, rfl, (St.keep1 (hs33.fr L29)), ?_, ?_⟩
 · exact ho30
 · unfold scrEscRes; rw [hk]; exact hd31.trans (by rw [hcp]; rfl)
theorem k123_ (s : ScrR) (b : Int) (w : World) (f_s : okScrR 549755813888 w s) (hsm : smScr 1048576 s.dat) :
    Calls Tryz.prog 22 #[.agg #[i64 s.W, i64 s.H, i64 s.Main.W, i64 s.Main.H, .slice s.Main.Cells.A s.Main.Cells.n s.Main.Cells.c, i64 s.Alt.W, i64 s.Alt.H, .slice s.Alt.Cells.A s.Alt.Cells.n s.Alt.Cells.c, .bool s.OnAlt, i64 s.X, i64 s.Y, .bool s.Wrap, i64 s.A.Fg, i64 s.A.Bg, .bool s.A.Bold, .bool s.A.Under, .bool s.A.Turn, i64 s.Top, i64 s.Bot, .bool s.NoWrap, .bool s.Hide, i64 s.SaveX, i64 s.SaveY, i64 s.SaveA.Fg, i64 s.SaveA.Bg, .bool s.SaveA.Bold, .bool s.SaveA.Under, .bool s.SaveA.Turn, .slice s.Tabs.A s.Tabs.n s.Tabs.c, i64 s.Limit, .slice s.Back.A s.Back.n s.Back.c], i64 b] w fun e w' => ∃ r L1, e = .returned (.agg #[i64 r.W, i64 r.H, i64 r.Main.W, i64 r.Main.H, .slice r.Main.Cells.A r.Main.Cells.n r.Main.Cells.c, i64 r.Alt.W, i64 r.Alt.H, .slice r.Alt.Cells.A r.Alt.Cells.n r.Alt.Cells.c, .bool r.OnAlt, i64 r.X, i64 r.Y, .bool r.Wrap, i64 r.A.Fg, i64 r.A.Bg, .bool r.A.Bold, .bool r.A.Under, .bool r.A.Turn, i64 r.Top, i64 r.Bot, .bool r.NoWrap, .bool r.Hide, i64 r.SaveX, i64 r.SaveY, i64 r.SaveA.Fg, i64 r.SaveA.Bg, .bool r.SaveA.Bold, .bool r.SaveA.Under, .bool r.SaveA.Turn, .slice r.Tabs.A r.Tabs.n r.Tabs.c, i64 r.Limit, .slice r.Back.A r.Back.n r.Back.c]) ∧ St w [] L1 w' ∧ ownScrR r L1 ∧ r.dat = scrEscRes s.dat b := by
 have nb_s_Main_Cells := f_s.Main.Cells_n
 have nl_s_Main_Cells := f_s.Main.Cells.len
 have nb_s_Alt_Cells := f_s.Alt.Cells_n
 have nl_s_Alt_Cells := f_s.Alt.Cells.len
 have nb_s_Tabs := f_s.Tabs_n
 have nl_s_Tabs := f_s.Tabs.len
 have nb_s_Back := f_s.Back_n
 have nl_s_Back := f_s.Back.sl.len
 refine enter 8 Tryz.func22 rfl Tryz.ntmps22 rfl rfl ?_
 have hs1 := St.init w
 refine WC.sr (WL.bx hs1 rfl (fun b2 _ hs3 => WL.bx hs3 rfl (fun b4 _ hs5 => WL.al hs5 Tryz.zeroValue33 rfl rfl (fun b6 _ hs7 => WL.nil (WC.sr (WL.r 1 hs7 [2] rfl (WL.val rfl rfl rfl (Run.makeFunc rfl rfl) ?_)))))))
 refine WL.cl Tryz.call74 rfl (k122_ s _ _ _ (okScrR.st0 f_s hs7) (SlF.own1 (hs7.own _ (nthL_mem (i := 1) rfl)).1) ?_) ?_
 · first | assumption | rfl | omega
 rintro _ whs8 ⟨r9, L1_10, rfl, hs8, ho11, hd12⟩
 replace hs8 := hs7.callF hs8
 refine ⟨_, rfl, ?_⟩
 replace hs8 := St.back [_, _, _] hs8
 refine WL.st tbk hs8 0 rfl rfl (fun _ hs13 => WL.nil (WC.ret (retV1 rfl (resV.cellA tbk hs13 0 rfl rfl rfl rfl) ?_)))
 refine ⟨r9, _, rfl, (St.keep1 (hs13.fr L1_10)), ?_, ?_⟩
 · exact ho11
 · exact hd12
theorem k124_ (b_s : Nat) (s : ScrR) (L_s : Hp) (b_q : Nat) (q : Int) (w : World) (hb_s : w.heap[b_s]? = some (Obj.cells (List.toArray [i64 s.W, i64 s.H, i64 s.Main.W, i64 s.Main.H, .slice s.Main.Cells.A s.Main.Cells.n s.Main.Cells.c, i64 s.Alt.W, i64 s.Alt.H, .slice s.Alt.Cells.A s.Alt.Cells.n s.Alt.Cells.c, .bool s.OnAlt, i64 s.X, i64 s.Y, .bool s.Wrap, i64 s.A.Fg, i64 s.A.Bg, .bool s.A.Bold, .bool s.A.Under, .bool s.A.Turn, i64 s.Top, i64 s.Bot, .bool s.NoWrap, .bool s.Hide, i64 s.SaveX, i64 s.SaveY, i64 s.SaveA.Fg, i64 s.SaveA.Bg, .bool s.SaveA.Bold, .bool s.SaveA.Under, .bool s.SaveA.Turn, .slice s.Tabs.A s.Tabs.n s.Tabs.c, i64 s.Limit, .slice s.Back.A s.Back.n s.Back.c]) 33 (0, 0))) (o_s : ownScrR s L_s) (h_s : Hh w L_s) (f_q : SlF encI w (some ⟨b_q, 0, none⟩) 1 [q]) (s_q : 0 < 1 → (adr (some ⟨b_q, 0, none⟩)).block ∉ (b_s :: L_s.map (·.1))) (hd_ : (b_s :: L_s.map (·.1)).Nodup) (hf : ScrFine s.dat) (hsm : smScr 1048576 s.dat) :
    Calls Tryz.prog 170 #[.pointer (some ⟨b_s, 0, none⟩), .pointer (some ⟨b_q, 0, none⟩)] w fun e w' => ∃ r L1, e = .returned (.tuple #[]) ∧ St w (b_s :: L_s.map (·.1)) ([(b_s, Obj.cells (List.toArray [i64 r.W, i64 r.H, i64 r.Main.W, i64 r.Main.H, .slice r.Main.Cells.A r.Main.Cells.n r.Main.Cells.c, i64 r.Alt.W, i64 r.Alt.H, .slice r.Alt.Cells.A r.Alt.Cells.n r.Alt.Cells.c, .bool r.OnAlt, i64 r.X, i64 r.Y, .bool r.Wrap, i64 r.A.Fg, i64 r.A.Bg, .bool r.A.Bold, .bool r.A.Under, .bool r.A.Turn, i64 r.Top, i64 r.Bot, .bool r.NoWrap, .bool r.Hide, i64 r.SaveX, i64 r.SaveY, i64 r.SaveA.Fg, i64 r.SaveA.Bg, .bool r.SaveA.Bold, .bool r.SaveA.Under, .bool r.SaveA.Turn, .slice r.Tabs.A r.Tabs.n r.Tabs.c, i64 r.Limit, .slice r.Back.A r.Back.n r.Back.c]) 33 (0, 0))] ++ L1) w' ∧ ownScrR r L1 ∧ r.dat = (if shows q = true then runeD s.dat q else s.dat) := by
 refine enter 8 Tryz.func170 rfl Tryz.ntmps170 rfl rfl ?_
 have hs1 := St.takeP w b_s _ L_s hb_s h_s hd_
 refine WC.sr (WL.val rfl rfl rfl (Run.load Tryz.isAgg3 rfl rfl (SlF.var (SlF.st f_q hs1 s_q) rfl)) (WL.cl Tryz.call171 rfl (k1_ _ _) ?_))
 rintro _ whs2 ⟨rfl, hs2⟩
 replace hs2 := hs1.call0 hs2
 refine ⟨_, rfl, WL.nil (WC.cq rfl (fun h3 qh3 => ?_) (fun h3 qh3 => ?_))⟩
 ·have hsh : shows q = true := h3
  refine WC.region (WL.r 1 hs2 [] rfl (WL.val rfl rfl rfl (Run.load Tryz.isAgg3 rfl rfl (SlF.var (SlF.st f_q hs2 s_q) rfl)) ?_))
  have hF4 := ((hs2.fr L_s).fb b_s)
  refine WL.cl Tryz.call172 rfl (k99_ _ s _ _ _ (St.headP hF4) o_s (St.ownP hF4) (St.nodupP hF4) ?_ ?_) ?_
  iterate 2 first | assumption | rfl | omega
  rintro _ whs5 ⟨r6, L7, rfl, hs5, ho8, hd9⟩
  replace hs5 := St.lendP hF4 hs5
  refine ⟨_, rfl, WL.nil (retK0 rfl (⟨r6, _, rfl, St.keepP (L1 := L7) ((hs5.fr L7).fb b_s), ho8, ?_⟩))⟩
  · rw [if_pos hsh]; exact hd9
 have hsh : ¬ shows q = true := by have h9 := h3; rw [h9]; decide
 refine WC.skip (retK0 rfl (⟨s, _, rfl, St.keepP (L1 := L_s) ((hs2.fr L_s).fb b_s), o_s, ?_⟩))
 · rw [if_neg hsh]
theorem k125_ (b_s : Nat) (s : ScrR) (L_s : Hp) (b_b : Nat) (b : Int) (w : World) (hb_s : w.heap[b_s]? = some (Obj.cells (List.toArray [i64 s.W, i64 s.H, i64 s.Main.W, i64 s.Main.H, .slice s.Main.Cells.A s.Main.Cells.n s.Main.Cells.c, i64 s.Alt.W, i64 s.Alt.H, .slice s.Alt.Cells.A s.Alt.Cells.n s.Alt.Cells.c, .bool s.OnAlt, i64 s.X, i64 s.Y, .bool s.Wrap, i64 s.A.Fg, i64 s.A.Bg, .bool s.A.Bold, .bool s.A.Under, .bool s.A.Turn, i64 s.Top, i64 s.Bot, .bool s.NoWrap, .bool s.Hide, i64 s.SaveX, i64 s.SaveY, i64 s.SaveA.Fg, i64 s.SaveA.Bg, .bool s.SaveA.Bold, .bool s.SaveA.Under, .bool s.SaveA.Turn, .slice s.Tabs.A s.Tabs.n s.Tabs.c, i64 s.Limit, .slice s.Back.A s.Back.n s.Back.c]) 33 (0, 0))) (o_s : ownScrR s L_s) (h_s : Hh w L_s) (f_b : SlF encI w (some ⟨b_b, 0, none⟩) 1 [b]) (s_b : 0 < 1 → (adr (some ⟨b_b, 0, none⟩)).block ∉ (b_s :: L_s.map (·.1))) (hd_ : (b_s :: L_s.map (·.1)).Nodup) (hf : ScrFine s.dat) (hsm : smScr 1048576 s.dat) :
    Calls Tryz.prog 173 #[.pointer (some ⟨b_s, 0, none⟩), .pointer (some ⟨b_b, 0, none⟩)] w fun e w' => ∃ r L1, e = .returned (.tuple #[]) ∧ St w (b_s :: L_s.map (·.1)) ([(b_s, Obj.cells (List.toArray [i64 r.W, i64 r.H, i64 r.Main.W, i64 r.Main.H, .slice r.Main.Cells.A r.Main.Cells.n r.Main.Cells.c, i64 r.Alt.W, i64 r.Alt.H, .slice r.Alt.Cells.A r.Alt.Cells.n r.Alt.Cells.c, .bool r.OnAlt, i64 r.X, i64 r.Y, .bool r.Wrap, i64 r.A.Fg, i64 r.A.Bg, .bool r.A.Bold, .bool r.A.Under, .bool r.A.Turn, i64 r.Top, i64 r.Bot, .bool r.NoWrap, .bool r.Hide, i64 r.SaveX, i64 r.SaveY, i64 r.SaveA.Fg, i64 r.SaveA.Bg, .bool r.SaveA.Bold, .bool r.SaveA.Under, .bool r.SaveA.Turn, .slice r.Tabs.A r.Tabs.n r.Tabs.c, i64 r.Limit, .slice r.Back.A r.Back.n r.Back.c]) 33 (0, 0))] ++ L1) w' ∧ ownScrR r L1 ∧ r.dat = ctlD s.dat b := by
 refine enter 6 Tryz.func173 rfl Tryz.ntmps173 rfl rfl ?_
 have hs1 := St.takeP w b_s _ L_s hb_s h_s hd_
 refine WC.region (WL.r 1 hs1 [] rfl (WL.val rfl rfl rfl (Run.load Tryz.isAgg3 rfl rfl (SlF.var (SlF.st f_b hs1 s_b) rfl)) ?_))
 have hF2 := ((hs1.fr L_s).fb b_s)
 refine WL.cl Tryz.call174 rfl (k119_ _ s _ _ _ (St.headP hF2) o_s (St.ownP hF2) (St.nodupP hF2) ?_ ?_) ?_
 iterate 2 first | assumption | rfl | omega
 rintro _ whs3 ⟨r4, L5, rfl, hs3, ho6, hd7⟩
 replace hs3 := St.lendP hF2 hs3
 refine ⟨_, rfl, WL.nil (retK0 rfl (⟨r4, _, rfl, St.keepP (L1 := L5) ((hs3.fr L5).fb b_s), ho6, ?_⟩))⟩
 · exact hd7
theorem k126_ (b_s : Nat) (s : ScrR) (L_s : Hp) (w : World) (hb_s : w.heap[b_s]? = some (Obj.cells (List.toArray [i64 s.W, i64 s.H, i64 s.Main.W, i64 s.Main.H, .slice s.Main.Cells.A s.Main.Cells.n s.Main.Cells.c, i64 s.Alt.W, i64 s.Alt.H, .slice s.Alt.Cells.A s.Alt.Cells.n s.Alt.Cells.c, .bool s.OnAlt, i64 s.X, i64 s.Y, .bool s.Wrap, i64 s.A.Fg, i64 s.A.Bg, .bool s.A.Bold, .bool s.A.Under, .bool s.A.Turn, i64 s.Top, i64 s.Bot, .bool s.NoWrap, .bool s.Hide, i64 s.SaveX, i64 s.SaveY, i64 s.SaveA.Fg, i64 s.SaveA.Bg, .bool s.SaveA.Bold, .bool s.SaveA.Under, .bool s.SaveA.Turn, .slice s.Tabs.A s.Tabs.n s.Tabs.c, i64 s.Limit, .slice s.Back.A s.Back.n s.Back.c]) 33 (0, 0))) (o_s : ownScrR s L_s) (h_s : Hh w L_s) (hd_ : (b_s :: L_s.map (·.1)).Nodup) :
    Calls Tryz.prog 92 #[.pointer (some ⟨b_s, 0, none⟩)] w fun e w' => ∃ r L1, e = .returned (.tuple #[]) ∧ St w (b_s :: L_s.map (·.1)) ([(b_s, Obj.cells (List.toArray [i64 r.W, i64 r.H, i64 r.Main.W, i64 r.Main.H, .slice r.Main.Cells.A r.Main.Cells.n r.Main.Cells.c, i64 r.Alt.W, i64 r.Alt.H, .slice r.Alt.Cells.A r.Alt.Cells.n r.Alt.Cells.c, .bool r.OnAlt, i64 r.X, i64 r.Y, .bool r.Wrap, i64 r.A.Fg, i64 r.A.Bg, .bool r.A.Bold, .bool r.A.Under, .bool r.A.Turn, i64 r.Top, i64 r.Bot, .bool r.NoWrap, .bool r.Hide, i64 r.SaveX, i64 r.SaveY, i64 r.SaveA.Fg, i64 r.SaveA.Bg, .bool r.SaveA.Bold, .bool r.SaveA.Under, .bool r.SaveA.Turn, .slice r.Tabs.A r.Tabs.n r.Tabs.c, i64 r.Limit, .slice r.Back.A r.Back.n r.Back.c]) 33 (0, 0))] ++ L1) w' ∧ ownScrR r L1 ∧ r.dat = s.dat := by
 refine enter 2 Tryz.func92 rfl Tryz.ntmps92 rfl rfl ?_
 have hs1 := St.takeP w b_s _ L_s hb_s h_s hd_
 refine WC.skip (retK0 rfl (⟨s, _, rfl, St.keepP (L1 := L_s) ((hs1.fr L_s).fb b_s), o_s, ?_⟩))
 · exact rfl
theorem k127_ (s : ScrR) (b_q : Nat) (q : Int) (w : World) (f_s : okScrR 549755813888 w s) (f_q : SlF encI w (some ⟨b_q, 0, none⟩) 1 [q]) (hsm : smScr 1048576 s.dat) :
    Calls Tryz.prog 74 #[.agg #[i64 s.W, i64 s.H, i64 s.Main.W, i64 s.Main.H, .slice s.Main.Cells.A s.Main.Cells.n s.Main.Cells.c, i64 s.Alt.W, i64 s.Alt.H, .slice s.Alt.Cells.A s.Alt.Cells.n s.Alt.Cells.c, .bool s.OnAlt, i64 s.X, i64 s.Y, .bool s.Wrap, i64 s.A.Fg, i64 s.A.Bg, .bool s.A.Bold, .bool s.A.Under, .bool s.A.Turn, i64 s.Top, i64 s.Bot, .bool s.NoWrap, .bool s.Hide, i64 s.SaveX, i64 s.SaveY, i64 s.SaveA.Fg, i64 s.SaveA.Bg, .bool s.SaveA.Bold, .bool s.SaveA.Under, .bool s.SaveA.Turn, .slice s.Tabs.A s.Tabs.n s.Tabs.c, i64 s.Limit, .slice s.Back.A s.Back.n s.Back.c], .func (.func 170) #[] #[.pointer (some ⟨b_q, 0, none⟩)]] w fun e w' => ∃ r L1, e = .returned (.agg #[i64 r.W, i64 r.H, i64 r.Main.W, i64 r.Main.H, .slice r.Main.Cells.A r.Main.Cells.n r.Main.Cells.c, i64 r.Alt.W, i64 r.Alt.H, .slice r.Alt.Cells.A r.Alt.Cells.n r.Alt.Cells.c, .bool r.OnAlt, i64 r.X, i64 r.Y, .bool r.Wrap, i64 r.A.Fg, i64 r.A.Bg, .bool r.A.Bold, .bool r.A.Under, .bool r.A.Turn, i64 r.Top, i64 r.Bot, .bool r.NoWrap, .bool r.Hide, i64 r.SaveX, i64 r.SaveY, i64 r.SaveA.Fg, i64 r.SaveA.Bg, .bool r.SaveA.Bold, .bool r.SaveA.Under, .bool r.SaveA.Turn, .slice r.Tabs.A r.Tabs.n r.Tabs.c, i64 r.Limit, .slice r.Back.A r.Back.n r.Back.c]) ∧ St w [] L1 w' ∧ ownScrR r L1 ∧ r.dat = scrRuneRes s.dat q := by
 have nb_s_Main_Cells := f_s.Main.Cells_n
 have nl_s_Main_Cells := f_s.Main.Cells.len
 have nb_s_Alt_Cells := f_s.Alt.Cells_n
 have nl_s_Alt_Cells := f_s.Alt.Cells.len
 have nb_s_Tabs := f_s.Tabs_n
 have nl_s_Tabs := f_s.Tabs.len
 have nb_s_Back := f_s.Back_n
 have nl_s_Back := f_s.Back.sl.len
 have hsmB : smScr 549755813888 s.dat := by first | assumption | exact smScr_mono hsm (by decide)
 refine enter 15 Tryz.func74 rfl Tryz.ntmps74 rfl rfl ?_
 have hs1 := St.init w
 refine WC.sr (WL.bx hs1 rfl (fun b2 _ hs3 => WL.al hs3 Tryz.zeroValue33 rfl rfl (fun b4 _ hs5 => WL.nil (WC.seq (fun K6 hK6 => WC.sr (WL.r 1 hs5 [1] rfl (WL.cl Tryz.call29 rfl (k33_ s _ (okScrR.st0 f_s hs5)) ?_)))))))
 rintro _ whs7 ⟨rfl, hs7⟩
 replace hs7 := hs5.call0 hs7
 refine ⟨_, rfl, WL.r 1 hs7 [] rfl (WL.nil (WC.cq rfl (fun h8 qh8 => ?_) (fun h8 qh8 => ?_)))⟩
 ·have hk : scrOk s.dat = false := by have h9 := h8; simpa using h9
  refine WC.sr ?_
  refine WL.val rfl rfl rfl (Run.build rfl rfl rfl rfl (built_33)) (WL.st tbk hs7 0 rfl rfl (fun _ hs9 => WL.nil (WC.ret (tkR ?_))))
  clear hK6
  refine retV1 rfl (resV.cellA tbk hs9 0 rfl rfl rfl rfl) ?_
  obtain ⟨L15, hs14, ho16⟩ := ownScrR.fl hs9 (OwnF.nil _ _) (OwnF.nil _ _) (OwnF.nil _ _) (OwnN.nil _ _ _)
  have hs17 := ((hs14.fb b2).fb b4)
  refine ownScrR.ret rfl (St.keep1 (hs17.fr L15)) ho16 ?_
  · unfold scrRuneRes; rw [hk]; rfl
 have hk : scrOk s.dat = true := by have h9 := h8; simpa using h9
 have hf := ScrFine.of hk
 refine WC.skip (hK6 _ _ (WC.sr (WL.r 1 hs7 [1] rfl ?_)))
 refine WL.cl Tryz.call150 rfl (k39_ s _ (okScrR.st0 f_s hs7) ?_) ?_
 · first | assumption | rfl | omega
 rintro _ whs18 ⟨r19, L1_20, rfl, hs18, ho21, hd22⟩
 replace hs18 := hs7.callF hs18
 refine ⟨_, rfl, ?_⟩
 replace hs18 := St.back [_, _] hs18
 have hcp := hd22
 have hfc : ScrFine (ScrR.dat _) := hcp.symm ▸ hf
 have hsmc : smScr 1048576 (ScrR.dat _) := hcp.symm ▸ hsm
 refine WL.al hs18 Tryz.zeroValue33 rfl rfl (fun b23 _ hs24 => WL.st tbk hs24 0 rfl rfl (fun _ hs25 => WL.nil (WC.sr (WL.r 1 hs25 [] rfl ?_))))
 have hF26 := ((hs25.fr L1_20).fb b23)
 refine WL.call rfl rfl rfl (Run.callC Tryz.call170 rfl rfl rfl) (k124_ _ r19 _ _ _ _ (St.headP hF26) ho21 (St.ownP hF26) (SlF.st0 f_q hs25) (St.sepP hF26 f_q) (St.nodupP hF26) ?_ ?_) ?_
 iterate 2 first | assumption | rfl | omega
 rintro _ whs27 ⟨r28, L29, rfl, hs27, ho30, hd31⟩
 replace hs27 := St.lendP hF26 hs27
 refine ⟨_, rfl, ?_⟩
 have hs32 := (((hs27.fb b2).fb b4).fb b23)
 refine WL.nil (WC.sr (WL.r 1 hs32 [0] rfl (WL.st tbk hs32 1 rfl rfl (fun _ hs33 => WL.nil (WC.ret (retV1 rfl (resV.cellA tbk hs33 1 rfl rfl rfl rfl) ?_))))))
 refine ⟨r28, _, rfl, (St.keep1 (hs33.fr L29)), ?_, ?_⟩
 · exact ho30
 · unfold scrRuneRes; rw [hk]; exact hd31.trans (by rw [hcp]; rfl)
theorem k128_ (s : ScrR) (q : Int) (w : World) (f_s : okScrR 549755813888 w s) (hsm : smScr 1048576 s.dat) :
    Calls Tryz.prog 90 #[.agg #[i64 s.W, i64 s.H, i64 s.Main.W, i64 s.Main.H, .slice s.Main.Cells.A s.Main.Cells.n s.Main.Cells.c, i64 s.Alt.W, i64 s.Alt.H, .slice s.Alt.Cells.A s.Alt.Cells.n s.Alt.Cells.c, .bool s.OnAlt, i64 s.X, i64 s.Y, .bool s.Wrap, i64 s.A.Fg, i64 s.A.Bg, .bool s.A.Bold, .bool s.A.Under, .bool s.A.Turn, i64 s.Top, i64 s.Bot, .bool s.NoWrap, .bool s.Hide, i64 s.SaveX, i64 s.SaveY, i64 s.SaveA.Fg, i64 s.SaveA.Bg, .bool s.SaveA.Bold, .bool s.SaveA.Under, .bool s.SaveA.Turn, .slice s.Tabs.A s.Tabs.n s.Tabs.c, i64 s.Limit, .slice s.Back.A s.Back.n s.Back.c], i64 q] w fun e w' => ∃ r L1, e = .returned (.agg #[i64 r.W, i64 r.H, i64 r.Main.W, i64 r.Main.H, .slice r.Main.Cells.A r.Main.Cells.n r.Main.Cells.c, i64 r.Alt.W, i64 r.Alt.H, .slice r.Alt.Cells.A r.Alt.Cells.n r.Alt.Cells.c, .bool r.OnAlt, i64 r.X, i64 r.Y, .bool r.Wrap, i64 r.A.Fg, i64 r.A.Bg, .bool r.A.Bold, .bool r.A.Under, .bool r.A.Turn, i64 r.Top, i64 r.Bot, .bool r.NoWrap, .bool r.Hide, i64 r.SaveX, i64 r.SaveY, i64 r.SaveA.Fg, i64 r.SaveA.Bg, .bool r.SaveA.Bold, .bool r.SaveA.Under, .bool r.SaveA.Turn, .slice r.Tabs.A r.Tabs.n r.Tabs.c, i64 r.Limit, .slice r.Back.A r.Back.n r.Back.c]) ∧ St w [] L1 w' ∧ ownScrR r L1 ∧ r.dat = scrRuneRes s.dat q := by
 have nb_s_Main_Cells := f_s.Main.Cells_n
 have nl_s_Main_Cells := f_s.Main.Cells.len
 have nb_s_Alt_Cells := f_s.Alt.Cells_n
 have nl_s_Alt_Cells := f_s.Alt.Cells.len
 have nb_s_Tabs := f_s.Tabs_n
 have nl_s_Tabs := f_s.Tabs.len
 have nb_s_Back := f_s.Back_n
 have nl_s_Back := f_s.Back.sl.len
 refine enter 8 Tryz.func90 rfl Tryz.ntmps90 rfl rfl ?_
 have hs1 := St.init w
 refine WC.sr (WL.bx hs1 rfl (fun b2 _ hs3 => WL.bx hs3 rfl (fun b4 _ hs5 => WL.al hs5 Tryz.zeroValue33 rfl rfl (fun b6 _ hs7 => WL.nil (WC.sr (WL.r 1 hs7 [2] rfl (WL.val rfl rfl rfl (Run.makeFunc rfl rfl) ?_)))))))
 refine WL.cl Tryz.call74 rfl (k127_ s _ _ _ (okScrR.st0 f_s hs7) (SlF.own1 (hs7.own _ (nthL_mem (i := 1) rfl)).1) ?_) ?_
 · first | assumption | rfl | omega
 rintro _ whs8 ⟨r9, L1_10, rfl, hs8, ho11, hd12⟩
 replace hs8 := hs7.callF hs8
 refine ⟨_, rfl, ?_⟩
 replace hs8 := St.back [_, _, _] hs8
 refine WL.st tbk hs8 0 rfl rfl (fun _ hs13 => WL.nil (WC.ret (retV1 rfl (resV.cellA tbk hs13 0 rfl rfl rfl rfl) ?_)))
 refine ⟨r9, _, rfl, (St.keep1 (hs13.fr L1_10)), ?_, ?_⟩
 · exact ho11
 · exact hd12
theorem k129_ (s : ScrR) (b_b : Nat) (b : Int) (w : World) (f_s : okScrR 549755813888 w s) (f_b : SlF encI w (some ⟨b_b, 0, none⟩) 1 [b]) (hsm : smScr 1048576 s.dat) :
    Calls Tryz.prog 74 #[.agg #[i64 s.W, i64 s.H, i64 s.Main.W, i64 s.Main.H, .slice s.Main.Cells.A s.Main.Cells.n s.Main.Cells.c, i64 s.Alt.W, i64 s.Alt.H, .slice s.Alt.Cells.A s.Alt.Cells.n s.Alt.Cells.c, .bool s.OnAlt, i64 s.X, i64 s.Y, .bool s.Wrap, i64 s.A.Fg, i64 s.A.Bg, .bool s.A.Bold, .bool s.A.Under, .bool s.A.Turn, i64 s.Top, i64 s.Bot, .bool s.NoWrap, .bool s.Hide, i64 s.SaveX, i64 s.SaveY, i64 s.SaveA.Fg, i64 s.SaveA.Bg, .bool s.SaveA.Bold, .bool s.SaveA.Under, .bool s.SaveA.Turn, .slice s.Tabs.A s.Tabs.n s.Tabs.c, i64 s.Limit, .slice s.Back.A s.Back.n s.Back.c], .func (.func 173) #[] #[.pointer (some ⟨b_b, 0, none⟩)]] w fun e w' => ∃ r L1, e = .returned (.agg #[i64 r.W, i64 r.H, i64 r.Main.W, i64 r.Main.H, .slice r.Main.Cells.A r.Main.Cells.n r.Main.Cells.c, i64 r.Alt.W, i64 r.Alt.H, .slice r.Alt.Cells.A r.Alt.Cells.n r.Alt.Cells.c, .bool r.OnAlt, i64 r.X, i64 r.Y, .bool r.Wrap, i64 r.A.Fg, i64 r.A.Bg, .bool r.A.Bold, .bool r.A.Under, .bool r.A.Turn, i64 r.Top, i64 r.Bot, .bool r.NoWrap, .bool r.Hide, i64 r.SaveX, i64 r.SaveY, i64 r.SaveA.Fg, i64 r.SaveA.Bg, .bool r.SaveA.Bold, .bool r.SaveA.Under, .bool r.SaveA.Turn, .slice r.Tabs.A r.Tabs.n r.Tabs.c, i64 r.Limit, .slice r.Back.A r.Back.n r.Back.c]) ∧ St w [] L1 w' ∧ ownScrR r L1 ∧ r.dat = scrCtlRes s.dat b := by
 have nb_s_Main_Cells := f_s.Main.Cells_n
 have nl_s_Main_Cells := f_s.Main.Cells.len
 have nb_s_Alt_Cells := f_s.Alt.Cells_n
 have nl_s_Alt_Cells := f_s.Alt.Cells.len
 have nb_s_Tabs := f_s.Tabs_n
 have nl_s_Tabs := f_s.Tabs.len
 have nb_s_Back := f_s.Back_n
 have nl_s_Back := f_s.Back.sl.len
 have hsmB : smScr 549755813888 s.dat := by first | assumption | exact smScr_mono hsm (by decide)
 refine enter 15 Tryz.func74 rfl Tryz.ntmps74 rfl rfl ?_
 have hs1 := St.init w
 refine WC.sr (WL.bx hs1 rfl (fun b2 _ hs3 => WL.al hs3 Tryz.zeroValue33 rfl rfl (fun b4 _ hs5 => WL.nil (WC.seq (fun K6 hK6 => WC.sr (WL.r 1 hs5 [1] rfl (WL.cl Tryz.call29 rfl (k33_ s _ (okScrR.st0 f_s hs5)) ?_)))))))
 rintro _ whs7 ⟨rfl, hs7⟩
 replace hs7 := hs5.call0 hs7
 refine ⟨_, rfl, WL.r 1 hs7 [] rfl (WL.nil (WC.cq rfl (fun h8 qh8 => ?_) (fun h8 qh8 => ?_)))⟩
 ·have hk : scrOk s.dat = false := by have h9 := h8; simpa using h9
  refine WC.sr ?_
  refine WL.val rfl rfl rfl (Run.build rfl rfl rfl rfl (built_33)) (WL.st tbk hs7 0 rfl rfl (fun _ hs9 => WL.nil (WC.ret (tkR ?_))))
  clear hK6
  refine retV1 rfl (resV.cellA tbk hs9 0 rfl rfl rfl rfl) ?_
  obtain ⟨L15, hs14, ho16⟩ := ownScrR.fl hs9 (OwnF.nil _ _) (OwnF.nil _ _) (OwnF.nil _ _) (OwnN.nil _ _ _)
  have hs17 := ((hs14.fb b2).fb b4)
  refine ownScrR.ret rfl (St.keep1 (hs17.fr L15)) ho16 ?_
  · unfold scrCtlRes; rw [hk]; rfl
 have hk : scrOk s.dat = true := by have h9 := h8; simpa using h9
 have hf := ScrFine.of hk
 refine WC.skip (hK6 _ _ (WC.sr (WL.r 1 hs7 [1] rfl ?_)))
 refine WL.cl Tryz.call150 rfl (k39_ s _ (okScrR.st0 f_s hs7) ?_) ?_
 · first | assumption | rfl | omega
 rintro _ whs18 ⟨r19, L1_20, rfl, hs18, ho21, hd22⟩
 replace hs18 := hs7.callF hs18
 refine ⟨_, rfl, ?_⟩
 replace hs18 := St.back [_, _] hs18
 have hcp := hd22
 have hfc : ScrFine (ScrR.dat _) := hcp.symm ▸ hf
 have hsmc : smScr 1048576 (ScrR.dat _) := hcp.symm ▸ hsm
 refine WL.al hs18 Tryz.zeroValue33 rfl rfl (fun b23 _ hs24 => WL.st tbk hs24 0 rfl rfl (fun _ hs25 => WL.nil (WC.sr (WL.r 1 hs25 [] rfl ?_))))
 have hF26 := ((hs25.fr L1_20).fb b23)
 refine WL.call rfl rfl rfl (Run.callC Tryz.call173 rfl rfl rfl) (k125_ _ r19 _ _ _ _ (St.headP hF26) ho21 (St.ownP hF26) (SlF.st0 f_b hs25) (St.sepP hF26 f_b) (St.nodupP hF26) ?_ ?_) ?_
 iterate 2 first | assumption | rfl | omega
 rintro _ whs27 ⟨r28, L29, rfl, hs27, ho30, hd31⟩
 replace hs27 := St.lendP hF26 hs27
 refine ⟨_, rfl, ?_⟩
 have hs32 := (((hs27.fb b2).fb b4).fb b23)
 refine WL.nil (WC.sr (WL.r 1 hs32 [0] rfl (WL.st tbk hs32 1 rfl rfl (fun _ hs33 => WL.nil (WC.ret (retV1 rfl (resV.cellA tbk hs33 1 rfl rfl rfl rfl) ?_))))))
 refine ⟨r28, _, rfl, (St.keep1 (hs33.fr L29)), ?_, ?_⟩
 · exact ho30
 · unfold scrCtlRes; rw [hk]; exact hd31.trans (by rw [hcp]; rfl)
theorem k130_ (s : ScrR) (b : Int) (w : World) (f_s : okScrR 549755813888 w s) (hsm : smScr 1048576 s.dat) :
    Calls Tryz.prog 91 #[.agg #[i64 s.W, i64 s.H, i64 s.Main.W, i64 s.Main.H, .slice s.Main.Cells.A s.Main.Cells.n s.Main.Cells.c, i64 s.Alt.W, i64 s.Alt.H, .slice s.Alt.Cells.A s.Alt.Cells.n s.Alt.Cells.c, .bool s.OnAlt, i64 s.X, i64 s.Y, .bool s.Wrap, i64 s.A.Fg, i64 s.A.Bg, .bool s.A.Bold, .bool s.A.Under, .bool s.A.Turn, i64 s.Top, i64 s.Bot, .bool s.NoWrap, .bool s.Hide, i64 s.SaveX, i64 s.SaveY, i64 s.SaveA.Fg, i64 s.SaveA.Bg, .bool s.SaveA.Bold, .bool s.SaveA.Under, .bool s.SaveA.Turn, .slice s.Tabs.A s.Tabs.n s.Tabs.c, i64 s.Limit, .slice s.Back.A s.Back.n s.Back.c], i64 b] w fun e w' => ∃ r L1, e = .returned (.agg #[i64 r.W, i64 r.H, i64 r.Main.W, i64 r.Main.H, .slice r.Main.Cells.A r.Main.Cells.n r.Main.Cells.c, i64 r.Alt.W, i64 r.Alt.H, .slice r.Alt.Cells.A r.Alt.Cells.n r.Alt.Cells.c, .bool r.OnAlt, i64 r.X, i64 r.Y, .bool r.Wrap, i64 r.A.Fg, i64 r.A.Bg, .bool r.A.Bold, .bool r.A.Under, .bool r.A.Turn, i64 r.Top, i64 r.Bot, .bool r.NoWrap, .bool r.Hide, i64 r.SaveX, i64 r.SaveY, i64 r.SaveA.Fg, i64 r.SaveA.Bg, .bool r.SaveA.Bold, .bool r.SaveA.Under, .bool r.SaveA.Turn, .slice r.Tabs.A r.Tabs.n r.Tabs.c, i64 r.Limit, .slice r.Back.A r.Back.n r.Back.c]) ∧ St w [] L1 w' ∧ ownScrR r L1 ∧ r.dat = scrCtlRes s.dat b := by
 have nb_s_Main_Cells := f_s.Main.Cells_n
 have nl_s_Main_Cells := f_s.Main.Cells.len
 have nb_s_Alt_Cells := f_s.Alt.Cells_n
 have nl_s_Alt_Cells := f_s.Alt.Cells.len
 have nb_s_Tabs := f_s.Tabs_n
 have nl_s_Tabs := f_s.Tabs.len
 have nb_s_Back := f_s.Back_n
 have nl_s_Back := f_s.Back.sl.len
 refine enter 8 Tryz.func91 rfl Tryz.ntmps91 rfl rfl ?_
 have hs1 := St.init w
 refine WC.sr (WL.bx hs1 rfl (fun b2 _ hs3 => WL.bx hs3 rfl (fun b4 _ hs5 => WL.al hs5 Tryz.zeroValue33 rfl rfl (fun b6 _ hs7 => WL.nil (WC.sr (WL.r 1 hs7 [2] rfl (WL.val rfl rfl rfl (Run.makeFunc rfl rfl) ?_)))))))
 refine WL.cl Tryz.call74 rfl (k129_ s _ _ _ (okScrR.st0 f_s hs7) (SlF.own1 (hs7.own _ (nthL_mem (i := 1) rfl)).1) ?_) ?_
 · first | assumption | rfl | omega
 rintro _ whs8 ⟨r9, L1_10, rfl, hs8, ho11, hd12⟩
 replace hs8 := hs7.callF hs8
 refine ⟨_, rfl, ?_⟩
 replace hs8 := St.back [_, _, _] hs8
 refine WL.st tbk hs8 0 rfl rfl (fun _ hs13 => WL.nil (WC.ret (retV1 rfl (resV.cellA tbk hs13 0 rfl rfl rfl rfl) ?_)))
 refine ⟨r9, _, rfl, (St.keep1 (hs13.fr L1_10)), ?_, ?_⟩
 · exact ho11
 · exact hd12
theorem k131_ (s : ScrR) (w : World) (f_s : okScrR 549755813888 w s) (hsm : smScr 1048576 s.dat) :
    Calls Tryz.prog 74 #[.agg #[i64 s.W, i64 s.H, i64 s.Main.W, i64 s.Main.H, .slice s.Main.Cells.A s.Main.Cells.n s.Main.Cells.c, i64 s.Alt.W, i64 s.Alt.H, .slice s.Alt.Cells.A s.Alt.Cells.n s.Alt.Cells.c, .bool s.OnAlt, i64 s.X, i64 s.Y, .bool s.Wrap, i64 s.A.Fg, i64 s.A.Bg, .bool s.A.Bold, .bool s.A.Under, .bool s.A.Turn, i64 s.Top, i64 s.Bot, .bool s.NoWrap, .bool s.Hide, i64 s.SaveX, i64 s.SaveY, i64 s.SaveA.Fg, i64 s.SaveA.Bg, .bool s.SaveA.Bold, .bool s.SaveA.Under, .bool s.SaveA.Turn, .slice s.Tabs.A s.Tabs.n s.Tabs.c, i64 s.Limit, .slice s.Back.A s.Back.n s.Back.c], .func (.func 92) #[] #[]] w fun e w' => ∃ r L1, e = .returned (.agg #[i64 r.W, i64 r.H, i64 r.Main.W, i64 r.Main.H, .slice r.Main.Cells.A r.Main.Cells.n r.Main.Cells.c, i64 r.Alt.W, i64 r.Alt.H, .slice r.Alt.Cells.A r.Alt.Cells.n r.Alt.Cells.c, .bool r.OnAlt, i64 r.X, i64 r.Y, .bool r.Wrap, i64 r.A.Fg, i64 r.A.Bg, .bool r.A.Bold, .bool r.A.Under, .bool r.A.Turn, i64 r.Top, i64 r.Bot, .bool r.NoWrap, .bool r.Hide, i64 r.SaveX, i64 r.SaveY, i64 r.SaveA.Fg, i64 r.SaveA.Bg, .bool r.SaveA.Bold, .bool r.SaveA.Under, .bool r.SaveA.Turn, .slice r.Tabs.A r.Tabs.n r.Tabs.c, i64 r.Limit, .slice r.Back.A r.Back.n r.Back.c]) ∧ St w [] L1 w' ∧ ownScrR r L1 ∧ r.dat = scrCopyRes s.dat := by
 have nb_s_Main_Cells := f_s.Main.Cells_n
 have nl_s_Main_Cells := f_s.Main.Cells.len
 have nb_s_Alt_Cells := f_s.Alt.Cells_n
 have nl_s_Alt_Cells := f_s.Alt.Cells.len
 have nb_s_Tabs := f_s.Tabs_n
 have nl_s_Tabs := f_s.Tabs.len
 have nb_s_Back := f_s.Back_n
 have nl_s_Back := f_s.Back.sl.len
 have hsmB : smScr 549755813888 s.dat := by first | assumption | exact smScr_mono hsm (by decide)
 refine enter 15 Tryz.func74 rfl Tryz.ntmps74 rfl rfl ?_
 have hs1 := St.init w
 refine WC.sr (WL.bx hs1 rfl (fun b2 _ hs3 => WL.al hs3 Tryz.zeroValue33 rfl rfl (fun b4 _ hs5 => WL.nil (WC.seq (fun K6 hK6 => WC.sr (WL.r 1 hs5 [1] rfl (WL.cl Tryz.call29 rfl (k33_ s _ (okScrR.st0 f_s hs5)) ?_)))))))
 rintro _ whs7 ⟨rfl, hs7⟩
 replace hs7 := hs5.call0 hs7
 refine ⟨_, rfl, WL.r 1 hs7 [] rfl (WL.nil (WC.cq rfl (fun h8 qh8 => ?_) (fun h8 qh8 => ?_)))⟩
 ·have hk : scrOk s.dat = false := by have h9 := h8; simpa using h9
  refine WC.sr ?_
  refine WL.val rfl rfl rfl (Run.build rfl rfl rfl rfl (built_33)) (WL.st tbk hs7 0 rfl rfl (fun _ hs9 => WL.nil (WC.ret (tkR ?_))))
  clear hK6
  refine retV1 rfl (resV.cellA tbk hs9 0 rfl rfl rfl rfl) ?_
  obtain ⟨L15, hs14, ho16⟩ := ownScrR.fl hs9 (OwnF.nil _ _) (OwnF.nil _ _) (OwnF.nil _ _) (OwnN.nil _ _ _)
  have hs17 := ((hs14.fb b2).fb b4)
  refine ownScrR.ret rfl (St.keep1 (hs17.fr L15)) ho16 ?_
  · unfold scrCopyRes; rw [hk]; rfl
 have hk : scrOk s.dat = true := by have h9 := h8; simpa using h9
 have hf := ScrFine.of hk
 refine WC.skip (hK6 _ _ (WC.sr (WL.r 1 hs7 [1] rfl ?_)))
 refine WL.cl Tryz.call150 rfl (k39_ s _ (okScrR.st0 f_s hs7) ?_) ?_
 · first | assumption | rfl | omega
 rintro _ whs18 ⟨r19, L1_20, rfl, hs18, ho21, hd22⟩
 replace hs18 := hs7.callF hs18
 refine ⟨_, rfl, ?_⟩
 replace hs18 := St.back [_, _] hs18
 have hcp := hd22
 have hfc : ScrFine (ScrR.dat _) := hcp.symm ▸ hf
 have hsmc : smScr 1048576 (ScrR.dat _) := hcp.symm ▸ hsm
 refine WL.al hs18 Tryz.zeroValue33 rfl rfl (fun b23 _ hs24 => WL.st tbk hs24 0 rfl rfl (fun _ hs25 => WL.nil (WC.sr (WL.r 1 hs25 [] rfl ?_))))
 have hF26 := ((hs25.fr L1_20).fb b23)
 refine WL.cl Tryz.call92 rfl (k126_ _ r19 _ _ (St.headP hF26) ho21 (St.ownP hF26) (St.nodupP hF26)) ?_
 rintro _ whs27 ⟨r28, L29, rfl, hs27, ho30, hd31⟩
 replace hs27 := St.lendP hF26 hs27
 refine ⟨_, rfl, ?_⟩
 have hs32 := (((hs27.fb b2).fb b4).fb b23)
 refine WL.nil (WC.sr (WL.r 1 hs32 [0] rfl (WL.st tbk hs32 1 rfl rfl (fun _ hs33 => WL.nil (WC.ret (retV1 rfl (resV.cellA tbk hs33 1 rfl rfl rfl rfl) ?_))))))
 refine ⟨r28, _, rfl, (St.keep1 (hs33.fr L29)), ?_, ?_⟩
 · exact ho30
 · unfold scrCopyRes; rw [hk]; exact hd31.trans (by rw [hcp]; rfl)
theorem k132_ (s : ScrR) (a : ActR) (w : World) (f_s : okScrR 549755813888 w s) (f_a : okActR 549755813888 w a) (hsm : smScr 1048576 s.dat) :
    Calls Tryz.prog 28 #[.agg #[i64 s.W, i64 s.H, i64 s.Main.W, i64 s.Main.H, .slice s.Main.Cells.A s.Main.Cells.n s.Main.Cells.c, i64 s.Alt.W, i64 s.Alt.H, .slice s.Alt.Cells.A s.Alt.Cells.n s.Alt.Cells.c, .bool s.OnAlt, i64 s.X, i64 s.Y, .bool s.Wrap, i64 s.A.Fg, i64 s.A.Bg, .bool s.A.Bold, .bool s.A.Under, .bool s.A.Turn, i64 s.Top, i64 s.Bot, .bool s.NoWrap, .bool s.Hide, i64 s.SaveX, i64 s.SaveY, i64 s.SaveA.Fg, i64 s.SaveA.Bg, .bool s.SaveA.Bold, .bool s.SaveA.Under, .bool s.SaveA.Turn, .slice s.Tabs.A s.Tabs.n s.Tabs.c, i64 s.Limit, .slice s.Back.A s.Back.n s.Back.c], .agg #[i64 a.Kind, i64 a.R, .bool a.Mark, .slice a.Args.A a.Args.n a.Args.c]] w fun e w' => ∃ r L1, e = .returned (.agg #[i64 r.W, i64 r.H, i64 r.Main.W, i64 r.Main.H, .slice r.Main.Cells.A r.Main.Cells.n r.Main.Cells.c, i64 r.Alt.W, i64 r.Alt.H, .slice r.Alt.Cells.A r.Alt.Cells.n r.Alt.Cells.c, .bool r.OnAlt, i64 r.X, i64 r.Y, .bool r.Wrap, i64 r.A.Fg, i64 r.A.Bg, .bool r.A.Bold, .bool r.A.Under, .bool r.A.Turn, i64 r.Top, i64 r.Bot, .bool r.NoWrap, .bool r.Hide, i64 r.SaveX, i64 r.SaveY, i64 r.SaveA.Fg, i64 r.SaveA.Bg, .bool r.SaveA.Bold, .bool r.SaveA.Under, .bool r.SaveA.Turn, .slice r.Tabs.A r.Tabs.n r.Tabs.c, i64 r.Limit, .slice r.Back.A r.Back.n r.Back.c]) ∧ St w [] L1 w' ∧ ownScrR r L1 ∧ r.dat = scrActRes s.dat a.dat := by
 have nb_s_Main_Cells := f_s.Main.Cells_n
 have nl_s_Main_Cells := f_s.Main.Cells.len
 have nb_s_Alt_Cells := f_s.Alt.Cells_n
 have nl_s_Alt_Cells := f_s.Alt.Cells.len
 have nb_s_Tabs := f_s.Tabs_n
 have nl_s_Tabs := f_s.Tabs.len
 have nb_s_Back := f_s.Back_n
 have nl_s_Back := f_s.Back.sl.len
 have nb_a_Args := f_a.Args_n
 have nl_a_Args := f_a.Args.len
 have hsmB : smScr 549755813888 s.dat := by first | assumption | exact smScr_mono hsm (by decide)
 have han := f_a.Args_n
 refine enter 37 Tryz.func28 rfl Tryz.ntmps28 rfl rfl ?_
 have hs1 := St.init w
 refine WC.sr (WL.bx hs1 rfl (fun b2 _ hs3 => WL.bx hs3 rfl (fun b4 _ hs5 => WL.al hs5 Tryz.zeroValue33 rfl rfl (fun b6 _ hs7 => WL.nil (WC.seq (fun K8 hK8 => WC.r1 hs7 [1] rfl (WC.block ?_)))))))
 refine WC.r1 hs7 [] rfl (WC.cq rfl (fun h9 qh9 => ?_) (fun h9 qh9 => ?_))
 ·have e1 : a.Kind = 1 := by have h9 := h9; simpa using h9
  refine WC.sr (WL.r 3 hs7 [2, 1] rfl (WL.cl Tryz.call90 rfl (k128_ s _ _ (okScrR.st0 f_s hs7) ?_) ?_))
  · first | assumption | rfl | omega
  rintro _ whs10 ⟨r11, L1_12, rfl, hs10, ho13, hd14⟩
  replace hs10 := hs7.callF hs10
  refine ⟨_, rfl, ?_⟩
  replace hs10 := St.back [_, _, _] hs10
  refine WL.st tbk hs10 0 rfl rfl (fun _ hs15 => WL.nil (WC.ret (ibR (tkR ?_))))
  clear hK8
  refine retV1 rfl (resV.cellA tbk hs15 0 rfl rfl rfl rfl) (⟨r11, _, rfl, (St.keep1 (hs15.fr L1_12)), ?_, ?_⟩)
  · exact ho13
  · unfold scrActRes; rw [if_pos (show a.dat.Kind = 1 from e1)]; exact hd14
 have e1 : ¬ a.Kind = 1 := by have h9 := h9; simpa using h9
 refine WC.r1 hs7 [] rfl (WC.cq rfl (fun h16 qh16 => ?_) (fun h16 qh16 => ?_))
 ·have e2 : a.Kind = 2 := by have h9 := h16; simpa using h9
  refine WC.sr (WL.r 3 hs7 [2, 1] rfl (WL.cl Tryz.call91 rfl (k130_ s _ _ (okScrR.st0 f_s hs7) ?_) ?_))
  · first | assumption | rfl | omega
  rintro _ whs17 ⟨r18, L1_19, rfl, hs17, ho20, hd21⟩
  replace hs17 := hs7.callF hs17
  refine ⟨_, rfl, ?_⟩
  replace hs17 := St.back [_, _, _] hs17
  refine WL.st tbk hs17 0 rfl rfl (fun _ hs22 => WL.nil (WC.ret (ibR (tkR ?_))))
  clear hK8
  refine retV1 rfl (resV.cellA tbk hs22 0 rfl rfl rfl rfl) (⟨r18, _, rfl, (St.keep1 (hs22.fr L1_19)), ?_, ?_⟩)
  · exact ho20
  · unfold scrActRes; rw [if_neg (show ¬ a.dat.Kind = 1 from e1), if_pos (show a.dat.Kind = 2 from e2)]; exact hd21
 have e2 : ¬ a.Kind = 2 := by have h9 := h16; simpa using h9
 refine WC.r1 hs7 [] rfl (WC.cq rfl (fun h23 qh23 => ?_) (fun h23 qh23 => ?_))
 ·have e3 : a.Kind = 3 := by have h9 := h23; simpa using h9
  refine WC.sr (WL.r 3 hs7 [2, 1] rfl (WL.cl Tryz.call22 rfl (k123_ s _ _ (okScrR.st0 f_s hs7) ?_) ?_))
  · first | assumption | rfl | omega
  rintro _ whs24 ⟨r25, L1_26, rfl, hs24, ho27, hd28⟩
  replace hs24 := hs7.callF hs24
  refine ⟨_, rfl, ?_⟩
  replace hs24 := St.back [_, _, _] hs24
  refine WL.st tbk hs24 0 rfl rfl (fun _ hs29 => WL.nil (WC.ret (ibR (tkR ?_))))
  clear hK8
  refine retV1 rfl (resV.cellA tbk hs29 0 rfl rfl rfl rfl) (⟨r25, _, rfl, (St.keep1 (hs29.fr L1_26)), ?_, ?_⟩)
  · exact ho27
  · unfold scrActRes; rw [if_neg (show ¬ a.dat.Kind = 1 from e1), if_neg (show ¬ a.dat.Kind = 2 from e2), if_pos (show a.dat.Kind = 3 from e3)]; exact hd28
 have e3 : ¬ a.Kind = 3 := by have h9 := h23; simpa using h9
 refine WC.r1 hs7 [] rfl (WC.cq rfl (fun h30 qh30 => ?_) (fun h30 qh30 => ?_))
 ·have e4 : a.Kind = 4 := by have h9 := h30; simpa using h9
  refine WC.sr (WL.r 7 hs7 [2, 1, 1, 1] rfl (WL.cl Tryz.call32 rfl (k96_ s _ _ _ _ _ _ _ (okScrR.st0 f_s hs7) (SlF.st0 f_a.Args hs7) ?_ ?_) ?_))
  iterate 2 first | assumption | omega
  rintro _ whs31 ⟨r32, L1_33, rfl, hs31, ho34, hd35⟩
  replace hs31 := hs7.callF hs31
  refine ⟨_, rfl, ?_⟩
  replace hs31 := St.back [_, _, _] hs31
  refine WL.st tbk hs31 0 rfl rfl (fun _ hs36 => WL.nil (WC.ret (ibR (tkR ?_))))
  clear hK8
  refine retV1 rfl (resV.cellA tbk hs36 0 rfl rfl rfl rfl) (⟨r32, _, rfl, (St.keep1 (hs36.fr L1_33)), ?_, ?_⟩)
  · exact ho34
  · unfold scrActRes; rw [if_neg (show ¬ a.dat.Kind = 1 from e1), if_neg (show ¬ a.dat.Kind = 2 from e2), if_neg (show ¬ a.dat.Kind = 3 from e3), if_pos (show a.dat.Kind = 4 from e4)]; exact hd35
 have e4 : ¬ a.Kind = 4 := by have h9 := h30; simpa using h9
 refine WC.skip (hK8 _ _ (WC.sr (WL.r 1 hs7 [2] rfl ?_)))
 refine WL.cl Tryz.call74 rfl (k131_ s _ (okScrR.st0 f_s hs7) ?_) ?_
 · first | assumption | rfl | omega
 rintro _ whs37 ⟨r38, L1_39, rfl, hs37, ho40, hd41⟩
 replace hs37 := hs7.callF hs37
 refine ⟨_, rfl, ?_⟩
 replace hs37 := St.back [_, _, _] hs37
 refine WL.st tbk hs37 0 rfl rfl (fun _ hs42 => WL.nil (WC.ret (retV1 rfl (resV.cellA tbk hs42 0 rfl rfl rfl rfl) ?_)))
 refine ⟨r38, _, rfl, (St.keep1 (hs42.fr L1_39)), ?_, ?_⟩
 · exact ho40
 · unfold scrActRes; rw [if_neg (show ¬ a.dat.Kind = 1 from e1), if_neg (show ¬ a.dat.Kind = 2 from e2), if_neg (show ¬ a.dat.Kind = 3 from e3), if_neg (show ¬ a.dat.Kind = 4 from e4)]; exact hd41
set_option maxHeartbeats 4000000 in
theorem k133_ (A_s : Option Addr) (n_s c_s : Nat) (s : List UInt8) (w : World) (f_s : SlF encB w A_s n_s s) :
    Calls Tryz.prog 5 #[.slice A_s n_s c_s] w fun e w' => e = .returned (.bool true) ∧ St w [] [] w' := by
 have hbl := f_s.len
 refine enter 63 Tryz.func5 rfl Tryz.ntmps5 rfl rfl ?_
 have hs1 := St.init w
 refine WC.r1 hs1 [] rfl (WC.seq (fun K2 hK2 => WC.r1 hs1 [] rfl ?_))
 refine WC.cq rfl (fun h3 qh3 => ?_) (fun h3 qh3 => ?_)
 ·refine WC.r1 hs1 [] rfl (WC.ret (tkR ?_))
  clear hK2
  refine retV1 rfl (resV.tmp rfl) (⟨rfl, hs1.nil⟩)
 have hn : n_s ≤ 1048576 := by have h9 := h3; simp at h9; omega
 refine WC.skip (hK2 _ _ (WC.sr (WL.r 1 hs1 [] rfl ?_)))
 refine WL.cl Tryz.call26 rfl (k109_ _ _ _ _ _ (SlF.st0 f_s hs1) ?_) ?_
 · first | assumption | rfl | omega
 rintro _ whs4 ⟨r5, L1_6, rfl, hs4, ho7, hm8⟩
 replace hs4 := hs1.callF hs4
 refine ⟨_, rfl, ?_⟩
 have hms := hm8
 have hfs := hms.fine
 have hsm0 : smScr 549755813888 r5.dat := fine_smB hfs (by decide)
 have hsm1 : smScr 1048576 r5.dat := fine_smB hfs (by decide)
 refine WL.al hs4 Tryz.zeroValue33 rfl rfl (fun b9 _ hs10 => WL.st tbk hs10 0 rfl rfl (fun _ hs11 => WL.nil (WC.sr (WL.r 1 hs11 [] rfl ?_))))
 refine WL.cl Tryz.call27 rfl (k116_ _ _ _ _ _ (SlF.st0 f_s hs11) ?_) ?_
 · first | assumption | rfl | omega
 rintro _ whs12 ⟨r13, L1_14, rfl, hs12, ho15, hm16⟩
 replace hs12 := hs11.callF hs12
 refine ⟨_, rfl, ?_⟩
 replace hs12 := St.back [_] hs12
 have hma := hm16
 have hsma : smAct 549755813888 r13.dat := Nat.le_trans (areArgs_iff.1 hma).1 (by decide)
 refine WL.al hs12 Tryz.zeroValue59 rfl rfl (fun b17 _ hs18 => WL.st tbk hs18 0 rfl rfl (fun _ hs19 => WL.nil (WC.sr (WL.r 2 hs19 [1, 0] rfl ?_))))
 refine WL.cl Tryz.call28 rfl (k132_ r5 r13 _ (ownScrR.ok (B := 549755813888) ho7 (hs19.ow L1_6) (by assumption)) (ownActR.ok (B := 549755813888) ho15 (hs19.ow L1_14) (by assumption)) ?_) ?_
 · first | assumption | rfl | omega
 rintro _ whs20 ⟨r21, L1_22, rfl, hs20, ho23, hd24⟩
 replace hs20 := hs19.callF hs20
 refine ⟨_, rfl, ?_⟩
 replace hs20 := St.back [_, _] hs20
 have hra : r21.dat = doAct r5.dat r13.dat := hd24.trans (act_res hfs hma)
 have hfr : ScrFine r21.dat := by rw [hra]; exact hfs.act hma
 have hsmr : smScr 549755813888 r21.dat := fine_smB hfr (by decide)
 have hSm : Same r5.dat r21.dat r5.dat.H.toNat := by rw [hra]; exact same_act hfs
 have q1 : scrOk r5.dat = true := hfs.ok
 have q2 : scrOk r21.dat = true := hfr.ok
 have q3 : r21.W = r5.W := hSm.W
 have q4 : r21.H = r5.H := hSm.H
 have q5 : r21.Limit = r5.Limit := hSm.L
 have hTB : smScr 549755813888 (scrActRes r5.dat r13.dat) := totScr_sm (Nat.le_trans scrActRes_tot (by decide))
 have hB1 := hSm.B
 have hB2 := hfr.lim
 have hB3 := hfs.lim
 have hbs := isSize_bnd hfs.size
 simp only [ScrR.dat, List.length_map] at hB1 hB2 hB3 hbs
 have hnr := ownScrR.len ‹ownScrR r21 _›
 have hns := ownScrR.len ‹ownScrR r5 _›
 have q6 : (r21.Back.n : Int) ≤ r5.Limit := by omega
 have q7 : (r21.Back.n : Int) ≤ (r5.Back.n : Int) + r5.H := by omega
 have q8 : (r5.Back.n : Int) ≤ 100 := by omega
 refine WL.al hs20 Tryz.zeroValue33 rfl rfl (fun b25 _ hs26 => WL.st tbk hs26 0 rfl rfl (fun _ hs27 => WL.nil (WC.sr (WL.r 1 hs27 [2] rfl (WL.cl Tryz.call29 rfl (k33_ r5 _ (ownScrR.ok (B := 549755813888) ho7 (hs27.ow L1_6) (by assumption))) ?_)))))
 rintro _ whs28 ⟨rfl, hs28⟩
 replace hs28 := hs27.call0 hs28
 refine ⟨_, rfl, WL.r 1 hs28 [] rfl ?_⟩
 apply WL.gA 2 Acts.nil hs28 rfl
 ·intro g29 J30
  have qg29 := g29
  try simp only [bf, within_iff, within_not] at qg29
  refine WL.runA tbk 1 (Acts.nil.cons (j := 2) rfl g29) hs28 [0] rfl ⟨rfl, trivial⟩ ?_
  refine WL.call (wantT rfl g29) rfl rfl (Run.call Tryz.call29 rfl rfl rfl) (k33_ r21 _ (ownScrR.ok (B := 549755813888) ho23 (hs28.ow L1_22) (by rw [hd24]; assumption))) ?_
  rintro _ whs31 ⟨rfl, hs31⟩
  replace hs31 := hs28.call0 hs31
  refine ⟨_, rfl, WL.eA 2 Acts.nil J30 hs31 g29 rfl rfl⟩
 intro _ hs32
 refine WL.r 1 hs32 [] rfl (WL.pA tbk 5 Acts.nil hs32 [0, 2] rfl rfl rfl rfl (fun g_ => ⟨rfl, rfl, trivial⟩) (WL.r 1 hs32 [] rfl (WL.pA tbk 5 Acts.nil hs32 [0, 2] rfl rfl rfl rfl (fun g_ => ⟨rfl, rfl, trivial⟩) (WL.r 1 hs32 [] rfl (WL.pA tbk 5 Acts.nil hs32 [0, 2] rfl rfl rfl rfl (fun g_ => ⟨rfl, rfl, trivial⟩) (WL.r 1 hs32 [] rfl (WL.pA tbk 6 Acts.nil hs32 [0, 2] rfl rfl rfl rfl (fun g_ => ⟨rfl, rfl, trivial⟩) ?_)))))))
 refine WL.r 1 hs32 [] rfl ?_
 refine WL.pA tbk 10 Acts.nil hs32 [0, 2, 2] rfl rfl rfl rfl (fun g_ => by (try simp only [bf, within_iff, within_not] at g_); exact ⟨by omega, rfl, rfl, rfl, trivial⟩) (WL.r 1 hs32 [] rfl (WL.nil (WC.ret (retV1 rfl (resV.tmp rfl) (⟨congrArg Ending.returned (congrArg Value.bool ?_), hs32.nil⟩)))))
 simp [q1, q2, q3, q4, q5, q6, q7]
open Go Go.RowKit Go.ChangeShapes Go.WideShapes Go.ChangeAt Go.Deep
section
variable {H : Type} {enc : TypeId × Value → H} {P : Program} {w : World} {base : Nat} {spare : Nat → Bool} {held : Bool} {fuel : Nat} {t e : TypeId} {cs : List Value} {x : DataW H × List MemPlace}
theorem open_SlB (ht : P.underlying t = some (.slice e)) (he : P.underlying e = some (.int .u8)) (hc : P.cellsOf e = 1) (h : DataW.trod enc P w base spare held fuel t cs = some x) :
  ∃ A n c xs, cs = [.slice A n c] ∧ SlB w A n xs ∧ n ≤ 9223372036854775807 := by
 rcases open_ints ht he hc h with ⟨rfl, _⟩ | ⟨a, l, c, zs, rfl, _, hl, hm, hz, _, hcell, hwz⟩
 ·exact ⟨none, 0, 0, [], rfl, ⟨rfl, SlR.nil _ _ _⟩, by omega⟩
 ·have hlz : l ≤ zs.length := by rw [hz]; split <;> omega
  refine ⟨some a, l, c, (zs.take l).map (fun z => UInt8.ofNat z.toNat), rfl, ⟨by simp; omega, ⟨by rw [rows_len]; simp [encB]; omega, fun _ => rfl, fun j v hv => ?_⟩⟩, by simp only [maxLen] at hm; omega⟩
  have hj : j < l := by
   have := (List.getElem?_eq_some_iff.1 hv).1
   simp [bytesV_len] at this; omega
  have hc1 := hcell j (by omega)
  have hw := hwz (zs.getD j 0) (by rw [List.getD_eq_getElem?_getD, List.getElem?_eq_getElem (show j < zs.length by omega)]; exact List.getElem_mem _)
  simp [Lit.wf, IntKind.min, IntKind.max, IntKind.signed, IntKind.bits] at hw
  show w.cell? (a.add j) = some v
  rw [hc1, ← hv]
  have hlt : j < zs.length := by omega
  have e1 : zs.getD j 0 = zs[j] := by rw [List.getD_eq_getElem?_getD, List.getElem?_eq_getElem hlt]; rfl
  rw [e1]
  simp only [List.getElem?_eq_getElem hlt, Option.getD_some] at hw
  simp [bytesV_map, hj, List.getElem?_eq_getElem hlt, UInt8.toNat_ofNat']
  omega
end
namespace fnScreen
open Go.ChangeShapes Go.WideShapes Go.ChangeAt Go.RowKit
theorem own : ownKnob Tryz.prog.godebug = none := by kernel_rfl
theorem laidOut : laidOutB Tryz.prog = true := by kernel_rfl
set_option maxRecDepth 100000 in
set_option maxHeartbeats 1000000 in
theorem lifted (os : Os) (started : os.Started) (H : Type) (enc : TypeId × Value → H) :
    ReturnsInHanded {} Tryz.checked os 5 .any (Rows.fnScreenSpec.pre6 enc Tryz.prog Tryz.f5 Rows.fnScreenRow.domain false) (Rows.fnScreenSpec.post enc Tryz.prog Tryz.f5 false true false false) := by
  refine returnsInHanded_of_change (C := Tryz.checked) own started (by kernel_rfl) Tryz.func5
    (ChangeSpec.witness6 (enc := enc) (C := Tryz.checked) false ⟨#[], #[.slice none 0 0], []⟩ 8 (by kernel_rfl) (by kernel_rfl) (by kernel_rfl) (by kernel_rfl)) ?_
  intro W base args ds gs before hval0 hW hcnd _
  have hval : ∀ (j : Nat) t v, Tryz.f5.params[j]? = some t → args[j]? = some v → Value.okWide Tryz.prog W .any base t v := hval0
  have hW' := hW
  obtain ⟨p, q, hA0, hV, rfl, hfz, hnd⟩ := hW
  have hA : DataW.TrodAll enc Tryz.prog W 0 (fun _ => true) true Tryz.f5.params.toList args.toList ds p := hA0
  rw [Tryz.params5] at hA hval
  obtain ⟨v0, vs0, d0, ds0, p0, q0, hargs, rfl, rfl, h0, r0⟩ := trodAll_cons hA
  obtain ⟨rfl, rfl, rfl⟩ := trodAll_nil r0
  obtain rfl : args = #[v0] := by cases args; simp_all
  obtain ⟨rfl, rfl⟩ := trodVars_none hV
  have k0 := h0
  have lt0 : ∀ x ∈ p0, x.block < W.heap.size := by obtain ⟨m, hm⟩ := k0; exact DataW.trod_lt m _ _ _ hm
  obtain ⟨a0, l0, q0, rfl⟩ := okWide_slice Tryz.underlying22 (hval 0 22 v0 rfl rfl)
  obtain ⟨fuel0, hf0⟩ := h0
  replace hf0 : DataW.trod _ _ _ _ _ _ _ 22 [.slice a0 l0 q0] = _ := hf0
  obtain ⟨A_aS, n_aS, c_aS, aS, e0, f_aS, w_aS⟩ := open_SlB Tryz.underlying22 Tryz.underlying5 (by kernel_rfl) hf0
  obtain ⟨rfl, rfl, rfl⟩ : A_aS = a0 ∧ n_aS = l0 ∧ c_aS = q0 := by cases e0; exact ⟨rfl, rfl, rfl⟩
  clear hA0 hval0
  refine (k133_ A_aS n_aS c_aS aS W f_aS).mono fun e W' ⟨he, hst⟩ => ?_
  have bel := hst.toBelow
  subst he
  exact ⟨_, rfl, _, _, _, [], _, [], hW', trodAll_mk1 (shut_bool Tryz.underlying4 _), (trodAll_cons_mk (Below.trod laidOut (by kernel_rfl) (of_decide_eq_true (by kernel_rfl)) k0 bel lt0) trodAll_mk0), rfl, bel.frame _, fun h => by cases h⟩
theorem over : Rows.fnScreenRow.holds Tryz.pinned (OpenSpec.ofChange Rows.fnScreenSpec) :=
  OpenClaim.holds_of_wide 5 Tryz.f5 rfl rfl rfl rfl rfl rfl rfl ⟨rfl, rfl, rfl, rfl, rfl⟩ rfl rfl rfl rfl rfl (by kernel_rfl) Tryz.func5 (by kernel_rfl)
    (of_decide_eq_true (by kernel_rfl)) (by unfold Func.isWrapper; first | (rw [if_pos (by decide +kernel)]; kernel_rfl) | (rw [if_neg (by decide +kernel)]; exact ⟨rfl, rfl⟩))
    (fun os started H enc _ => lifted os started H enc)
end fnScreen
theorem fnScreen_holds : Rows.FnScreenSaid := fnScreen.over
end Go.Proofs.YtjmegoiclgancaaGreat
