/-
  What the proof stands on, part 4.
-/
import Derived.Test.YtjmegoiclgancaaGreatKS3
namespace Go.Proofs.YtjmegoiclgancaaGreat
open Go Go.RowKit
set_option linter.unusedVariables false
set_option linter.unusedSimpArgs false
theorem k56_ (b_s : Nat) (s : ScrR) (L_s : Hp) (top : Int) (bot : Int) (n : Int) (w : World) (hb_s : w.heap[b_s]? = some (Obj.cells (List.toArray [i64 s.W, i64 s.H, i64 s.Main.W, i64 s.Main.H, .slice s.Main.Cells.A s.Main.Cells.n s.Main.Cells.c, i64 s.Alt.W, i64 s.Alt.H, .slice s.Alt.Cells.A s.Alt.Cells.n s.Alt.Cells.c, .bool s.OnAlt, i64 s.X, i64 s.Y, .bool s.Wrap, i64 s.A.Fg, i64 s.A.Bg, .bool s.A.Bold, .bool s.A.Under, .bool s.A.Turn, i64 s.Top, i64 s.Bot, .bool s.NoWrap, .bool s.Hide, i64 s.SaveX, i64 s.SaveY, i64 s.SaveA.Fg, i64 s.SaveA.Bg, .bool s.SaveA.Bold, .bool s.SaveA.Under, .bool s.SaveA.Turn, .slice s.Tabs.A s.Tabs.n s.Tabs.c, i64 s.Limit, .slice s.Back.A s.Back.n s.Back.c]) 33 (0, 0))) (o_s : ownScrR s L_s) (h_s : Hh w L_s) (hd_ : (b_s :: L_s.map (·.1)).Nodup) (hg : gridOk (shownD s.dat) = true) (ht : 0 ≤ top ∧ top ≤ bot ∧ bot < (shownD s.dat).H) (hn : -100000 ≤ n ∧ n ≤ 100000) (hsmB : smScr 549755813888 s.dat) (hx : s.OnAlt = false) :
    Calls Tryz.prog 210 #[.pointer (some ⟨b_s, 0, none⟩), i64 top, i64 bot, i64 n] w fun e w' => ∃ r L1, e = .returned (.tuple #[]) ∧ St w (b_s :: L_s.map (·.1)) ([(b_s, Obj.cells (List.toArray [i64 r.W, i64 r.H, i64 r.Main.W, i64 r.Main.H, .slice r.Main.Cells.A r.Main.Cells.n r.Main.Cells.c, i64 r.Alt.W, i64 r.Alt.H, .slice r.Alt.Cells.A r.Alt.Cells.n r.Alt.Cells.c, .bool r.OnAlt, i64 r.X, i64 r.Y, .bool r.Wrap, i64 r.A.Fg, i64 r.A.Bg, .bool r.A.Bold, .bool r.A.Under, .bool r.A.Turn, i64 r.Top, i64 r.Bot, .bool r.NoWrap, .bool r.Hide, i64 r.SaveX, i64 r.SaveY, i64 r.SaveA.Fg, i64 r.SaveA.Bg, .bool r.SaveA.Bold, .bool r.SaveA.Under, .bool r.SaveA.Turn, .slice r.Tabs.A r.Tabs.n r.Tabs.c, i64 r.Limit, .slice r.Back.A r.Back.n r.Back.c]) 33 (0, 0))] ++ L1) w' ∧ ownScrR r L1 ∧ r.dat = rollD s.dat top bot n := by
 refine enter 20 Tryz.func210 rfl Tryz.ntmps210 rfl rfl ?_
 have hs1 := St.takeP w b_s _ L_s hb_s h_s hd_
 refine WC.sr (WL.r 1 hs1 [] rfl ?_)
 have hF2 := ((hs1.fr L_s).fb b_s)
 refine WL.cl Tryz.call223 rfl (k47_ _ s _ _ (St.headP hF2) o_s (St.ownP hF2) (St.nodupP hF2) ?_) ?_
 · first | assumption | rfl | omega
 rintro _ whs3 ⟨r4, L5, rfl, hs3, ho6, hd7⟩
 replace hs3 := St.lendP hF2 hs3
 refine ⟨_, rfl, ?_⟩
 have hd2 := hd7
 have hM2 : r4.Main.dat = shownD s.dat := (congrArg ScrD.Main hd2).trans (by unfold shownD; rw [if_neg (show ¬ s.dat.OnAlt = true from by show ¬ s.OnAlt = true; first | exact hx | (rw [hx]; decide))])
 have hg2 : gridOk r4.Main.dat = true := by rw [hM2]; exact hg
 have ht2 : 0 ≤ top ∧ top ≤ bot ∧ bot < r4.Main.H := by have h9 := congrArg GridD.H hM2; simp only [GridR.dat] at h9; rw [h9]; exact ht
 refine WL.r 1 hs3 [] rfl (WL.nil (WC.region (WL.r 7 hs3 [0] rfl ?_)))
 refine WL.cl Tryz.call249 rfl (k54_ r4.Main _ _ _ _ (ownScrR.ok (B := 549755813888) ho6 (hs3.ow L5) (by rw [hd7]; assumption)).Main ?_ ?_ ?_) ?_
 iterate 3 first | assumption | rfl | omega
 rintro _ whs8 ⟨r9, L1_10, rfl, hs8, ho11, hd12⟩
 replace hs8 := hs3.callF hs8
 refine ⟨_, rfl, ?_⟩
 replace hs8 := St.back [_] hs8
 have hd3 := hd12
 refine WL.r 1 hs8 [] rfl (WL.st tbk hs8 0 rfl rfl (fun _ hs13 => WL.nil (retK0 rfl ?_)))
 obtain ⟨L14, L15, L16, L17, hs22, ho18, ho19, ho20, ho21⟩ := ownScrR.op hs13 ho6
 have hs23 := (hs22.fb b_s)
 obtain ⟨L25, hs24, ho26⟩ := ownScrR.fl hs23 ho11 ho19 ho20 ho21
 have hs27 := (hs24.fb b_s)
 refine ownScrR.retp rfl ((hs27.fr L25).fb b_s) ho26 ?_
 · rw [show rollD s.dat top bot n = { s.dat with Main := gRoll (shownD s.dat) top bot n } from by unfold rollD putD; rw [if_neg (show ¬ s.dat.OnAlt = true from by show ¬ s.OnAlt = true; first | exact hx | (rw [hx]; decide))], ← hd2]; exact ScrD.ext' rfl rfl (hd3.trans (by rw [hM2, hd2])) rfl rfl rfl rfl rfl rfl rfl rfl rfl rfl rfl rfl rfl rfl rfl rfl
theorem k57_ (b_s : Nat) (s : ScrR) (L_s : Hp) (top : Int) (bot : Int) (n : Int) (w : World) (hb_s : w.heap[b_s]? = some (Obj.cells (List.toArray [i64 s.W, i64 s.H, i64 s.Main.W, i64 s.Main.H, .slice s.Main.Cells.A s.Main.Cells.n s.Main.Cells.c, i64 s.Alt.W, i64 s.Alt.H, .slice s.Alt.Cells.A s.Alt.Cells.n s.Alt.Cells.c, .bool s.OnAlt, i64 s.X, i64 s.Y, .bool s.Wrap, i64 s.A.Fg, i64 s.A.Bg, .bool s.A.Bold, .bool s.A.Under, .bool s.A.Turn, i64 s.Top, i64 s.Bot, .bool s.NoWrap, .bool s.Hide, i64 s.SaveX, i64 s.SaveY, i64 s.SaveA.Fg, i64 s.SaveA.Bg, .bool s.SaveA.Bold, .bool s.SaveA.Under, .bool s.SaveA.Turn, .slice s.Tabs.A s.Tabs.n s.Tabs.c, i64 s.Limit, .slice s.Back.A s.Back.n s.Back.c]) 33 (0, 0))) (o_s : ownScrR s L_s) (h_s : Hh w L_s) (hd_ : (b_s :: L_s.map (·.1)).Nodup) (hg : gridOk (shownD s.dat) = true) (ht : 0 ≤ top ∧ top ≤ bot ∧ bot < (shownD s.dat).H) (hn : -100000 ≤ n ∧ n ≤ 100000) (hsmB : smScr 549755813888 s.dat) (hx : s.OnAlt = true) :
    Calls Tryz.prog 210 #[.pointer (some ⟨b_s, 0, none⟩), i64 top, i64 bot, i64 n] w fun e w' => ∃ r L1, e = .returned (.tuple #[]) ∧ St w (b_s :: L_s.map (·.1)) ([(b_s, Obj.cells (List.toArray [i64 r.W, i64 r.H, i64 r.Main.W, i64 r.Main.H, .slice r.Main.Cells.A r.Main.Cells.n r.Main.Cells.c, i64 r.Alt.W, i64 r.Alt.H, .slice r.Alt.Cells.A r.Alt.Cells.n r.Alt.Cells.c, .bool r.OnAlt, i64 r.X, i64 r.Y, .bool r.Wrap, i64 r.A.Fg, i64 r.A.Bg, .bool r.A.Bold, .bool r.A.Under, .bool r.A.Turn, i64 r.Top, i64 r.Bot, .bool r.NoWrap, .bool r.Hide, i64 r.SaveX, i64 r.SaveY, i64 r.SaveA.Fg, i64 r.SaveA.Bg, .bool r.SaveA.Bold, .bool r.SaveA.Under, .bool r.SaveA.Turn, .slice r.Tabs.A r.Tabs.n r.Tabs.c, i64 r.Limit, .slice r.Back.A r.Back.n r.Back.c]) 33 (0, 0))] ++ L1) w' ∧ ownScrR r L1 ∧ r.dat = rollD s.dat top bot n := by
 refine enter 20 Tryz.func210 rfl Tryz.ntmps210 rfl rfl ?_
 have hs1 := St.takeP w b_s _ L_s hb_s h_s hd_
 refine WC.sr (WL.r 1 hs1 [] rfl ?_)
 have hF2 := ((hs1.fr L_s).fb b_s)
 refine WL.cl Tryz.call223 rfl (k48_ _ s _ _ (St.headP hF2) o_s (St.ownP hF2) (St.nodupP hF2) ?_) ?_
 · first | assumption | rfl | omega
 rintro _ whs3 ⟨r4, L5, rfl, hs3, ho6, hd7⟩
 replace hs3 := St.lendP hF2 hs3
 refine ⟨_, rfl, ?_⟩
 have hd2 := hd7
 have hM2 : r4.Alt.dat = shownD s.dat := (congrArg ScrD.Alt hd2).trans (by unfold shownD; rw [if_pos (show  s.dat.OnAlt = true from by show  s.OnAlt = true; first | exact hx | (rw [hx]; decide))])
 have hg2 : gridOk r4.Alt.dat = true := by rw [hM2]; exact hg
 have ht2 : 0 ≤ top ∧ top ≤ bot ∧ bot < r4.Alt.H := by have h9 := congrArg GridD.H hM2; simp only [GridR.dat] at h9; rw [h9]; exact ht
 refine WL.r 1 hs3 [] rfl (WL.nil (WC.region (WL.r 7 hs3 [0] rfl ?_)))
 refine WL.cl Tryz.call249 rfl (k54_ r4.Alt _ _ _ _ (ownScrR.ok (B := 549755813888) ho6 (hs3.ow L5) (by rw [hd7]; assumption)).Alt ?_ ?_ ?_) ?_
 iterate 3 first | assumption | rfl | omega
 rintro _ whs8 ⟨r9, L1_10, rfl, hs8, ho11, hd12⟩
 replace hs8 := hs3.callF hs8
 refine ⟨_, rfl, ?_⟩
 replace hs8 := St.back [_] hs8
 have hd3 := hd12
 refine WL.r 1 hs8 [] rfl (WL.st tbk hs8 0 rfl rfl (fun _ hs13 => WL.nil (retK0 rfl ?_)))
 obtain ⟨L14, L15, L16, L17, hs22, ho18, ho19, ho20, ho21⟩ := ownScrR.op hs13 ho6
 have hs23 := (hs22.fb b_s)
 obtain ⟨L25, hs24, ho26⟩ := ownScrR.fl hs23 ho18 ho11 ho20 ho21
 have hs27 := (hs24.fb b_s)
 refine ownScrR.retp rfl ((hs27.fr L25).fb b_s) ho26 ?_
 · rw [show rollD s.dat top bot n = { s.dat with Alt := gRoll (shownD s.dat) top bot n } from by unfold rollD putD; rw [if_pos (show  s.dat.OnAlt = true from by show  s.OnAlt = true; first | exact hx | (rw [hx]; decide))], ← hd2]; exact ScrD.ext' rfl rfl rfl (hd3.trans (by rw [hM2, hd2])) rfl rfl rfl rfl rfl rfl rfl rfl rfl rfl rfl rfl rfl rfl rfl
theorem k58_ (b_s : Nat) (s : ScrR) (L_s : Hp) (top : Int) (bot : Int) (n : Int) (w : World) (hb_s : w.heap[b_s]? = some (Obj.cells (List.toArray [i64 s.W, i64 s.H, i64 s.Main.W, i64 s.Main.H, .slice s.Main.Cells.A s.Main.Cells.n s.Main.Cells.c, i64 s.Alt.W, i64 s.Alt.H, .slice s.Alt.Cells.A s.Alt.Cells.n s.Alt.Cells.c, .bool s.OnAlt, i64 s.X, i64 s.Y, .bool s.Wrap, i64 s.A.Fg, i64 s.A.Bg, .bool s.A.Bold, .bool s.A.Under, .bool s.A.Turn, i64 s.Top, i64 s.Bot, .bool s.NoWrap, .bool s.Hide, i64 s.SaveX, i64 s.SaveY, i64 s.SaveA.Fg, i64 s.SaveA.Bg, .bool s.SaveA.Bold, .bool s.SaveA.Under, .bool s.SaveA.Turn, .slice s.Tabs.A s.Tabs.n s.Tabs.c, i64 s.Limit, .slice s.Back.A s.Back.n s.Back.c]) 33 (0, 0))) (o_s : ownScrR s L_s) (h_s : Hh w L_s) (hd_ : (b_s :: L_s.map (·.1)).Nodup) (hg : gridOk (shownD s.dat) = true) (ht : 0 ≤ top ∧ top ≤ bot ∧ bot < (shownD s.dat).H) (hn : -100000 ≤ n ∧ n ≤ 100000) (hsmB : smScr 549755813888 s.dat) :
    Calls Tryz.prog 210 #[.pointer (some ⟨b_s, 0, none⟩), i64 top, i64 bot, i64 n] w fun e w' => ∃ r L1, e = .returned (.tuple #[]) ∧ St w (b_s :: L_s.map (·.1)) ([(b_s, Obj.cells (List.toArray [i64 r.W, i64 r.H, i64 r.Main.W, i64 r.Main.H, .slice r.Main.Cells.A r.Main.Cells.n r.Main.Cells.c, i64 r.Alt.W, i64 r.Alt.H, .slice r.Alt.Cells.A r.Alt.Cells.n r.Alt.Cells.c, .bool r.OnAlt, i64 r.X, i64 r.Y, .bool r.Wrap, i64 r.A.Fg, i64 r.A.Bg, .bool r.A.Bold, .bool r.A.Under, .bool r.A.Turn, i64 r.Top, i64 r.Bot, .bool r.NoWrap, .bool r.Hide, i64 r.SaveX, i64 r.SaveY, i64 r.SaveA.Fg, i64 r.SaveA.Bg, .bool r.SaveA.Bold, .bool r.SaveA.Under, .bool r.SaveA.Turn, .slice r.Tabs.A r.Tabs.n r.Tabs.c, i64 r.Limit, .slice r.Back.A r.Back.n r.Back.c]) 33 (0, 0))] ++ L1) w' ∧ ownScrR r L1 ∧ r.dat = rollD s.dat top bot n := by
 rcases Bool.eq_false_or_eq_true s.OnAlt with hx_ | hx_
 · exact k57_ b_s s L_s top bot n w hb_s o_s h_s hd_ hg ht hn hsmB hx_
 · exact k56_ b_s s L_s top bot n w hb_s o_s h_s hd_ hg ht hn hsmB hx_
theorem k59_ (b_s : Nat) (s : ScrR) (L_s : Hp) (n : Int) (w : World) (hb_s : w.heap[b_s]? = some (Obj.cells (List.toArray [i64 s.W, i64 s.H, i64 s.Main.W, i64 s.Main.H, .slice s.Main.Cells.A s.Main.Cells.n s.Main.Cells.c, i64 s.Alt.W, i64 s.Alt.H, .slice s.Alt.Cells.A s.Alt.Cells.n s.Alt.Cells.c, .bool s.OnAlt, i64 s.X, i64 s.Y, .bool s.Wrap, i64 s.A.Fg, i64 s.A.Bg, .bool s.A.Bold, .bool s.A.Under, .bool s.A.Turn, i64 s.Top, i64 s.Bot, .bool s.NoWrap, .bool s.Hide, i64 s.SaveX, i64 s.SaveY, i64 s.SaveA.Fg, i64 s.SaveA.Bg, .bool s.SaveA.Bold, .bool s.SaveA.Under, .bool s.SaveA.Turn, .slice s.Tabs.A s.Tabs.n s.Tabs.c, i64 s.Limit, .slice s.Back.A s.Back.n s.Back.c]) 33 (0, 0))) (o_s : ownScrR s L_s) (h_s : Hh w L_s) (hd_ : (b_s :: L_s.map (·.1)).Nodup) (hf : ScrFine s.dat) (hn : 0 ≤ n ∧ n ≤ 100000) (hsm : smScr 1048576 s.dat) :
    Calls Tryz.prog 209 #[.pointer (some ⟨b_s, 0, none⟩), i64 n] w fun e w' => ∃ r L1, e = .returned (.tuple #[]) ∧ St w (b_s :: L_s.map (·.1)) ([(b_s, Obj.cells (List.toArray [i64 r.W, i64 r.H, i64 r.Main.W, i64 r.Main.H, .slice r.Main.Cells.A r.Main.Cells.n r.Main.Cells.c, i64 r.Alt.W, i64 r.Alt.H, .slice r.Alt.Cells.A r.Alt.Cells.n r.Alt.Cells.c, .bool r.OnAlt, i64 r.X, i64 r.Y, .bool r.Wrap, i64 r.A.Fg, i64 r.A.Bg, .bool r.A.Bold, .bool r.A.Under, .bool r.A.Turn, i64 r.Top, i64 r.Bot, .bool r.NoWrap, .bool r.Hide, i64 r.SaveX, i64 r.SaveY, i64 r.SaveA.Fg, i64 r.SaveA.Bg, .bool r.SaveA.Bold, .bool r.SaveA.Under, .bool r.SaveA.Turn, .slice r.Tabs.A r.Tabs.n r.Tabs.c, i64 r.Limit, .slice r.Back.A r.Back.n r.Back.c]) 33 (0, 0))] ++ L1) w' ∧ ownScrR r L1 ∧ r.dat = rollUpD s.dat n := by
 have hsmB : smScr 549755813888 s.dat := by first | assumption | exact smScr_mono hsm (by decide)
 have hok9 := hf.ok
 obtain ⟨hb1, hb2, hb3, hb4, hb5, hb6⟩ := scrOk_bnd hok9
 obtain ⟨hm, hma⟩ := scrOk_main hok9
 simp only [ScrR.dat, GridR.dat, List.length_map] at hb1 hb2 hb3 hb4 hb5 hb6
 have hgs0 : gridOk (shownD s.dat) = true := hf.shown.1
 have hts0 : 0 ≤ s.Top ∧ s.Top ≤ s.Bot ∧ s.Bot < (shownD s.dat).H := by rw [hf.shown.2.2]; exact ⟨hf.reg.1.1, hf.reg.1.2, hf.reg.2.1⟩
 refine enter 36 Tryz.func209 rfl Tryz.ntmps209 rfl rfl ?_
 have hs1 := St.takeP w b_s _ L_s hb_s h_s hd_
 refine WC.seq (fun K2 hK2 => WC.sr (WL.r 6 hs1 [0] rfl (WL.pA tbk 5 Acts.nil hs1 [0] rfl rfl rfl rfl (fun g_ => ⟨rfl, trivial⟩) (WL.nil ?_))))
 refine WC.cq rfl (fun h3 qh3 => ?_) (fun h3 qh3 => ?_)
 ·have hk : keepD s.dat n = keepRows s.dat (min n (s.Bot + 1)).toNat := by unfold keepD; rw [if_pos (by show s.OnAlt = false ∧ s.Top = 0; have h9 := h3; simpa using h9)]; rfl
  refine WC.region (WL.r 7 hs1 [0] rfl (WL.val rfl rfl rfl (Run.asN ((min n (s.Bot + 1)).toNat) (Run.min rfl rfl rfl) ?_) ?_))
  · omega
  have hF4 := ((hs1.fr L_s).fb b_s)
  refine WL.cl Tryz.call248 rfl (k55_ _ s _ _ _ (St.headP hF4) o_s (St.ownP hF4) (St.nodupP hF4) ?_ ?_ ?_ ?_ ?_) ?_
  iterate 5 first | assumption | rfl | omega
  rintro _ whs5 ⟨r6, L7, rfl, hs5, ho8, hd9⟩
  replace hs5 := St.lendP hF4 hs5
  refine ⟨_, rfl, ?_⟩
  have hkr : r6.dat = keepD s.dat n := hd9.trans hk.symm
  have hfr : ScrFine r6.dat := by rw [hkr]; exact hf.keep
  have hsr : smScr 549755813888 r6.dat := by rw [hd9]; exact keepRows_sm hsmB hm (by decide) (by show s.Limit.toNat ≤ _; omega)
  have hgs : gridOk (shownD r6.dat) = true := hfr.shown.1
  have hts : 0 ≤ r6.Top ∧ r6.Top ≤ r6.Bot ∧ r6.Bot < (shownD r6.dat).H := by rw [hfr.shown.2.2]; exact ⟨hfr.reg.1.1, hfr.reg.1.2, hfr.reg.2.1⟩
  have hrT : r6.Top = s.Top := (congrArg ScrD.Top hkr).trans keepD_eqs.2.1
  have hrB : r6.Bot = s.Bot := (congrArg ScrD.Bot hkr).trans keepD_eqs.2.2.1
  refine WL.nil (hK2 _ _ (WC.rH (hs5.d1.rm L7) hs5 (fun _ hs10 => ?_)))
  refine WH.rn [0, 1, 2, 3, 5, 6, 7, 9] (hs10.d1.rm L7) [] rfl rfl (WH.all [4, 8] (by kernel_rfl) rfl (WHs.cons (i := 4) rfl ?_ (WHs.cons (i := 8) rfl ?_ WHs.nil)))
  ·refine WL.r 1 hs10 [0] rfl (WL.nil ⟨(hs10.d1.rm L7), WH.o1 8 rfl (WL.r 1 hs10 [0] rfl (WL.nil ⟨(hs10.d1.rm L7), WH.o1 10 rfl ?_⟩))⟩)
   have hF11 := ((hs10.fr L7).fb b_s)
   refine WL.cl Tryz.call210 rfl (k58_ _ r6 _ _ _ _ _ (St.headP hF11) ho8 (St.ownP hF11) (St.nodupP hF11) ?_ ?_ ?_ ?_) ?_
   iterate 4 first | assumption | rfl | omega
   rintro _ whs12 ⟨r13, L14, rfl, hs12, ho15, hd16⟩
   replace hs12 := St.lendP hF11 hs12
   refine ⟨_, rfl, WL.nil ⟨(hs12.d1.rm L14), WH.dn (retK0 rfl (⟨r13, _, rfl, St.keepP (L1 := L14) ((hs12.fr L14).fb b_s), ho15, ?_⟩))⟩⟩
   · refine hd16.trans ?_; unfold rollUpD; first | (rw [hkr, hrT, hrB]; rfl) | (rw [hk]; rfl)
  refine WL.r 1 hs10 [0] rfl (WL.nil ⟨(hs10.d1.rm L7), WH.o1 4 rfl (WL.r 1 hs10 [0] rfl (WL.nil ⟨(hs10.d1.rm L7), WH.o1 10 rfl ?_⟩))⟩)
  have hF17 := ((hs10.fr L7).fb b_s)
  refine WL.cl Tryz.call210 rfl (k58_ _ r6 _ _ _ _ _ (St.headP hF17) ho8 (St.ownP hF17) (St.nodupP hF17) ?_ ?_ ?_ ?_) ?_
  iterate 4 first | assumption | rfl | omega
  rintro _ whs18 ⟨r19, L20, rfl, hs18, ho21, hd22⟩
  replace hs18 := St.lendP hF17 hs18
  refine ⟨_, rfl, WL.nil ⟨(hs18.d1.rm L20), WH.dn (retK0 rfl (⟨r19, _, rfl, St.keepP (L1 := L20) ((hs18.fr L20).fb b_s), ho21, ?_⟩))⟩⟩
  · refine hd22.trans ?_; unfold rollUpD; first | (rw [hkr, hrT, hrB]; rfl) | (rw [hk]; rfl)
 have hk : keepD s.dat n = s.dat := by unfold keepD; rw [if_neg (by show ¬ (s.OnAlt = false ∧ s.Top = 0); have h9 := h3; simpa using h9)]
 refine WC.skip (hK2 _ _ (WC.rH (hs1.d1.rm L_s) hs1 (fun _ hs23 => ?_)))
 refine WH.rn [0, 1, 2, 3, 5, 6, 7, 9] (hs23.d1.rm L_s) [] rfl rfl (WH.all [4, 8] (by kernel_rfl) rfl (WHs.cons (i := 4) rfl ?_ (WHs.cons (i := 8) rfl ?_ WHs.nil)))
 ·refine WL.r 1 hs23 [0] rfl (WL.nil ⟨(hs23.d1.rm L_s), WH.o1 8 rfl (WL.r 1 hs23 [0] rfl (WL.nil ⟨(hs23.d1.rm L_s), WH.o1 10 rfl ?_⟩))⟩)
  have hF24 := ((hs23.fr L_s).fb b_s)
  refine WL.cl Tryz.call210 rfl (k58_ _ s _ _ _ _ _ (St.headP hF24) o_s (St.ownP hF24) (St.nodupP hF24) ?_ ?_ ?_ ?_) ?_
  iterate 4 first | assumption | rfl | omega
  rintro _ whs25 ⟨r26, L27, rfl, hs25, ho28, hd29⟩
  replace hs25 := St.lendP hF24 hs25
  refine ⟨_, rfl, WL.nil ⟨(hs25.d1.rm L27), WH.dn (retK0 rfl (⟨r26, _, rfl, St.keepP (L1 := L27) ((hs25.fr L27).fb b_s), ho28, ?_⟩))⟩⟩
  · refine hd29.trans ?_; unfold rollUpD; first | (rw [hkr, hrT, hrB]; rfl) | (rw [hk]; rfl)
 refine WL.r 1 hs23 [0] rfl (WL.nil ⟨(hs23.d1.rm L_s), WH.o1 4 rfl (WL.r 1 hs23 [0] rfl (WL.nil ⟨(hs23.d1.rm L_s), WH.o1 10 rfl ?_⟩))⟩)
 have hF30 := ((hs23.fr L_s).fb b_s)
 refine WL.cl Tryz.call210 rfl (k58_ _ s _ _ _ _ _ (St.headP hF30) o_s (St.ownP hF30) (St.nodupP hF30) ?_ ?_ ?_ ?_) ?_
 iterate 4 first | assumption | rfl | omega
 rintro _ whs31 ⟨r32, L33, rfl, hs31, ho34, hd35⟩
 replace hs31 := St.lendP hF30 hs31
 refine ⟨_, rfl, WL.nil ⟨(hs31.d1.rm L33), WH.dn (retK0 rfl (⟨r32, _, rfl, St.keepP (L1 := L33) ((hs31.fr L33).fb b_s), ho34, ?_⟩))⟩⟩
 · refine hd35.trans ?_; unfold rollUpD; first | (rw [hkr, hrT, hrB]; rfl) | (rw [hk]; rfl)
theorem k60_ (b_s : Nat) (s : ScrR) (L_s : Hp) (w : World) (hb_s : w.heap[b_s]? = some (Obj.cells (List.toArray [i64 s.W, i64 s.H, i64 s.Main.W, i64 s.Main.H, .slice s.Main.Cells.A s.Main.Cells.n s.Main.Cells.c, i64 s.Alt.W, i64 s.Alt.H, .slice s.Alt.Cells.A s.Alt.Cells.n s.Alt.Cells.c, .bool s.OnAlt, i64 s.X, i64 s.Y, .bool s.Wrap, i64 s.A.Fg, i64 s.A.Bg, .bool s.A.Bold, .bool s.A.Under, .bool s.A.Turn, i64 s.Top, i64 s.Bot, .bool s.NoWrap, .bool s.Hide, i64 s.SaveX, i64 s.SaveY, i64 s.SaveA.Fg, i64 s.SaveA.Bg, .bool s.SaveA.Bold, .bool s.SaveA.Under, .bool s.SaveA.Turn, .slice s.Tabs.A s.Tabs.n s.Tabs.c, i64 s.Limit, .slice s.Back.A s.Back.n s.Back.c]) 33 (0, 0))) (o_s : ownScrR s L_s) (h_s : Hh w L_s) (hd_ : (b_s :: L_s.map (·.1)).Nodup) (hf : ScrFine s.dat) (hsm : smScr 1048576 s.dat) :
    Calls Tryz.prog 151 #[.pointer (some ⟨b_s, 0, none⟩)] w fun e w' => ∃ r L1, e = .returned (.tuple #[]) ∧ St w (b_s :: L_s.map (·.1)) ([(b_s, Obj.cells (List.toArray [i64 r.W, i64 r.H, i64 r.Main.W, i64 r.Main.H, .slice r.Main.Cells.A r.Main.Cells.n r.Main.Cells.c, i64 r.Alt.W, i64 r.Alt.H, .slice r.Alt.Cells.A r.Alt.Cells.n r.Alt.Cells.c, .bool r.OnAlt, i64 r.X, i64 r.Y, .bool r.Wrap, i64 r.A.Fg, i64 r.A.Bg, .bool r.A.Bold, .bool r.A.Under, .bool r.A.Turn, i64 r.Top, i64 r.Bot, .bool r.NoWrap, .bool r.Hide, i64 r.SaveX, i64 r.SaveY, i64 r.SaveA.Fg, i64 r.SaveA.Bg, .bool r.SaveA.Bold, .bool r.SaveA.Under, .bool r.SaveA.Turn, .slice r.Tabs.A r.Tabs.n r.Tabs.c, i64 r.Limit, .slice r.Back.A r.Back.n r.Back.c]) 33 (0, 0))] ++ L1) w' ∧ ownScrR r L1 ∧ r.dat = downD s.dat := by
 have hsmB : smScr 549755813888 s.dat := by first | assumption | exact smScr_mono hsm (by decide)
 have hok9 := hf.ok
 obtain ⟨hb1, hb2, hb3, hb4, hb5, hb6⟩ := scrOk_bnd hok9
 obtain ⟨hm, hma⟩ := scrOk_main hok9
 simp only [ScrR.dat, GridR.dat, List.length_map] at hb1 hb2 hb3 hb4 hb5 hb6
 have hgs0 : gridOk (shownD s.dat) = true := hf.shown.1
 have hts0 : 0 ≤ s.Top ∧ s.Top ≤ s.Bot ∧ s.Bot < (shownD s.dat).H := by rw [hf.shown.2.2]; exact ⟨hf.reg.1.1, hf.reg.1.2, hf.reg.2.1⟩
 refine enter 35 Tryz.func151 rfl Tryz.ntmps151 rfl rfl ?_
 have hs1 := St.takeP w b_s _ L_s hb_s h_s hd_
 refine WC.seq (fun K2 hK2 => WC.block (WC.q1 hs1 [0, 0] rfl (fun _ hs3 => ?_)))
 refine WC.cq rfl (fun h4 qh4 => ?_) (fun h4 qh4 => ?_)
 ·have e1 : s.dat.Y = s.dat.Bot := by show s.Y = s.Bot; have h9 := h4; simpa using h9
  refine WC.region (WL.r 1 hs3 [] rfl ?_)
  have hF5 := ((hs3.fr L_s).fb b_s)
  refine WL.cl Tryz.call209 rfl (k59_ _ s _ _ _ (St.headP hF5) o_s (St.ownP hF5) (St.nodupP hF5) ?_ ?_ ?_) ?_
  iterate 3 first | assumption | rfl | omega
  rintro _ whs6 ⟨r7, L8, rfl, hs6, ho9, hd10⟩
  replace hs6 := St.lendP hF5 hs6
  refine ⟨_, rfl, ?_⟩
  have hd3 := hd10
  refine WL.nil (hK2 _ _ (WC.region (WL.r 3 hs6 [] rfl (WL.st tbk hs6 0 rfl rfl (fun _ hs11 => WL.nil (retK0 rfl ?_))))))
  obtain ⟨L12, L13, L14, L15, hs20, ho16, ho17, ho18, ho19⟩ := ownScrR.op hs11 ho9
  have hs21 := (hs20.fb b_s)
  obtain ⟨L23, hs22, ho24⟩ := ownScrR.fl hs21 ho16 ho17 ho18 ho19
  have hs25 := (hs22.fb b_s)
  refine ownScrR.retp rfl ((hs25.fr L23).fb b_s) ho24 ?_
  · unfold downD; first | (rw [if_pos e1, ← hd3]; rfl) | (rw [if_neg e1, if_pos e2]; rfl) | (rw [if_neg e1, if_neg e2]; rfl)
 have e1 : ¬ s.dat.Y = s.dat.Bot := by show ¬ s.Y = s.Bot; have h9 := h4; simpa using h9
 refine WC.q1 hs3 [0, 0] rfl (fun _ hs26 => ?_)
 refine WC.cq rfl (fun h27 qh27 => ?_) (fun h27 qh27 => ?_)
 ·have e2 : s.dat.Y < s.dat.H - 1 := by show s.Y < s.H - 1; have h9 := h27; simpa using h9
  refine WC.region (WL.r 7 hs26 [0] rfl (WL.st tbk hs26 0 rfl rfl (fun _ hs28 => WL.nil (hK2 _ _ (WC.region (WL.r 3 hs28 [] rfl (WL.st tbk hs28 0 rfl rfl (fun _ hs29 => ?_))))))))
  refine WL.nil (retK0 rfl ?_)
  obtain ⟨L30, L31, L32, L33, hs38, ho34, ho35, ho36, ho37⟩ := ownScrR.op hs29 o_s
  have hs39 := (hs38.fb b_s)
  obtain ⟨L41, hs40, ho42⟩ := ownScrR.fl hs39 ho34 ho35 ho36 ho37
  have hs43 := (hs40.fb b_s)
  refine ownScrR.retp rfl ((hs43.fr L41).fb b_s) ho42 ?_
  · unfold downD; first | (rw [if_pos e1, ← hd3]; rfl) | (rw [if_neg e1, if_pos e2]; rfl) | (rw [if_neg e1, if_neg e2]; rfl)
 have e2 : ¬ s.dat.Y < s.dat.H - 1 := by show ¬ s.Y < s.H - 1; have h9 := h27; simpa using h9
 refine WC.skip (hK2 _ _ (WC.region (WL.r 3 hs26 [] rfl (WL.st tbk hs26 0 rfl rfl (fun _ hs44 => WL.nil (retK0 rfl ?_))))))
 obtain ⟨L45, L46, L47, L48, hs53, ho49, ho50, ho51, ho52⟩ := ownScrR.op hs44 o_s
 have hs54 := (hs53.fb b_s)
 obtain ⟨L56, hs55, ho57⟩ := ownScrR.fl hs54 ho49 ho50 ho51 ho52
 have hs58 := (hs55.fb b_s)
 refine ownScrR.retp rfl ((hs58.fr L56).fb b_s) ho57 ?_
 · unfold downD; first | (rw [if_pos e1, ← hd3]; rfl) | (rw [if_neg e1, if_pos e2]; rfl) | (rw [if_neg e1, if_neg e2]; rfl)
theorem k61_ (b_s : Nat) (s : ScrR) (L_s : Hp) (w : World) (hb_s : w.heap[b_s]? = some (Obj.cells (List.toArray [i64 s.W, i64 s.H, i64 s.Main.W, i64 s.Main.H, .slice s.Main.Cells.A s.Main.Cells.n s.Main.Cells.c, i64 s.Alt.W, i64 s.Alt.H, .slice s.Alt.Cells.A s.Alt.Cells.n s.Alt.Cells.c, .bool s.OnAlt, i64 s.X, i64 s.Y, .bool s.Wrap, i64 s.A.Fg, i64 s.A.Bg, .bool s.A.Bold, .bool s.A.Under, .bool s.A.Turn, i64 s.Top, i64 s.Bot, .bool s.NoWrap, .bool s.Hide, i64 s.SaveX, i64 s.SaveY, i64 s.SaveA.Fg, i64 s.SaveA.Bg, .bool s.SaveA.Bold, .bool s.SaveA.Under, .bool s.SaveA.Turn, .slice s.Tabs.A s.Tabs.n s.Tabs.c, i64 s.Limit, .slice s.Back.A s.Back.n s.Back.c]) 33 (0, 0))) (o_s : ownScrR s L_s) (h_s : Hh w L_s) (hd_ : (b_s :: L_s.map (·.1)).Nodup) (hf : ScrFine s.dat) (hsm : smScr 1048576 s.dat) :
    Calls Tryz.prog 152 #[.pointer (some ⟨b_s, 0, none⟩)] w fun e w' => ∃ r L1, e = .returned (.tuple #[]) ∧ St w (b_s :: L_s.map (·.1)) ([(b_s, Obj.cells (List.toArray [i64 r.W, i64 r.H, i64 r.Main.W, i64 r.Main.H, .slice r.Main.Cells.A r.Main.Cells.n r.Main.Cells.c, i64 r.Alt.W, i64 r.Alt.H, .slice r.Alt.Cells.A r.Alt.Cells.n r.Alt.Cells.c, .bool r.OnAlt, i64 r.X, i64 r.Y, .bool r.Wrap, i64 r.A.Fg, i64 r.A.Bg, .bool r.A.Bold, .bool r.A.Under, .bool r.A.Turn, i64 r.Top, i64 r.Bot, .bool r.NoWrap, .bool r.Hide, i64 r.SaveX, i64 r.SaveY, i64 r.SaveA.Fg, i64 r.SaveA.Bg, .bool r.SaveA.Bold, .bool r.SaveA.Under, .bool r.SaveA.Turn, .slice r.Tabs.A r.Tabs.n r.Tabs.c, i64 r.Limit, .slice r.Back.A r.Back.n r.Back.c]) 33 (0, 0))] ++ L1) w' ∧ ownScrR r L1 ∧ r.dat = upD s.dat := by
 have hsmB : smScr 549755813888 s.dat := by first | assumption | exact smScr_mono hsm (by decide)
 have hok9 := hf.ok
 obtain ⟨hb1, hb2, hb3, hb4, hb5, hb6⟩ := scrOk_bnd hok9
 obtain ⟨hm, hma⟩ := scrOk_main hok9
 simp only [ScrR.dat, GridR.dat, List.length_map] at hb1 hb2 hb3 hb4 hb5 hb6
 have hgs0 : gridOk (shownD s.dat) = true := hf.shown.1
 have hts0 : 0 ≤ s.Top ∧ s.Top ≤ s.Bot ∧ s.Bot < (shownD s.dat).H := by rw [hf.shown.2.2]; exact ⟨hf.reg.1.1, hf.reg.1.2, hf.reg.2.1⟩
 refine enter 38 Tryz.func152 rfl Tryz.ntmps152 rfl rfl ?_
 have hs1 := St.takeP w b_s _ L_s hb_s h_s hd_
 refine WC.seq (fun K2 hK2 => WC.block (WC.q1 hs1 [0, 0] rfl (fun _ hs3 => ?_)))
 refine WC.cq rfl (fun h4 qh4 => ?_) (fun h4 qh4 => ?_)
 ·have e1 : s.dat.Y = s.dat.Top := by show s.Y = s.Top; have h9 := h4; simpa using h9
  refine WC.rH (hs3.d1.rm L_s) hs3 (fun _ hs5 => ?_)
  refine WH.rn [0, 1, 2, 3, 5, 6, 7] (hs5.d1.rm L_s) [] rfl rfl (WH.all [4, 8] (by kernel_rfl) rfl (WHs.cons (i := 4) rfl ?_ (WHs.cons (i := 8) rfl ?_ WHs.nil)))
  ·refine WL.r 1 hs5 [0] rfl (WL.nil ⟨(hs5.d1.rm L_s), WH.o1 8 rfl (WL.r 1 hs5 [0] rfl (WL.nil ⟨(hs5.d1.rm L_s), WH.o1 9 rfl ?_⟩))⟩)
   have hF6 := ((hs5.fr L_s).fb b_s)
   refine WL.cl Tryz.call210 rfl (k58_ _ s _ _ _ _ _ (St.headP hF6) o_s (St.ownP hF6) (St.nodupP hF6) ?_ ?_ ?_ ?_) ?_
   iterate 4 first | assumption | rfl | omega
   rintro _ whs7 ⟨r8, L9, rfl, hs7, ho10, hd11⟩
   replace hs7 := St.lendP hF6 hs7
   refine ⟨_, rfl, ?_⟩
   have hd3 := hd11
   refine WL.nil ⟨(hs7.d1.rm L9), WH.dn (hK2 _ _ (WC.region (WL.r 3 hs7 [] rfl (WL.st tbk hs7 0 rfl rfl (fun _ hs12 => WL.nil (retK0 rfl ?_))))))⟩
   obtain ⟨L13, L14, L15, L16, hs21, ho17, ho18, ho19, ho20⟩ := ownScrR.op hs12 ho10
   have hs22 := (hs21.fb b_s)
   obtain ⟨L24, hs23, ho25⟩ := ownScrR.fl hs22 ho17 ho18 ho19 ho20
   have hs26 := (hs23.fb b_s)
   refine ownScrR.retp rfl ((hs26.fr L24).fb b_s) ho25 ?_
   · unfold upD; first | (rw [if_pos e1]; show _ = wrapD (rollD s.dat s.Top s.Bot (-1)) false; refine Eq.trans ?_ (congrArg (fun d => wrapD d false) hd3); rfl) | (rw [if_neg e1, if_pos e2]; rfl) | (rw [if_neg e1, if_neg e2]; rfl)
  refine WL.r 1 hs5 [0] rfl (WL.nil ⟨(hs5.d1.rm L_s), WH.o1 4 rfl (WL.r 1 hs5 [0] rfl (WL.nil ⟨(hs5.d1.rm L_s), WH.o1 9 rfl ?_⟩))⟩)
  have hF27 := ((hs5.fr L_s).fb b_s)
  refine WL.cl Tryz.call210 rfl (k58_ _ s _ _ _ _ _ (St.headP hF27) o_s (St.ownP hF27) (St.nodupP hF27) ?_ ?_ ?_ ?_) ?_
  iterate 4 first | assumption | rfl | omega
  rintro _ whs28 ⟨r29, L30, rfl, hs28, ho31, hd32⟩
  replace hs28 := St.lendP hF27 hs28
  refine ⟨_, rfl, ?_⟩
  have hd3 := hd32
  refine WL.nil ⟨(hs28.d1.rm L30), WH.dn (hK2 _ _ (WC.region (WL.r 3 hs28 [] rfl (WL.st tbk hs28 0 rfl rfl (fun _ hs33 => WL.nil (retK0 rfl ?_))))))⟩
  obtain ⟨L34, L35, L36, L37, hs42, ho38, ho39, ho40, ho41⟩ := ownScrR.op hs33 ho31
  have hs43 := (hs42.fb b_s)
  obtain ⟨L45, hs44, ho46⟩ := ownScrR.fl hs43 ho38 ho39 ho40 ho41
  have hs47 := (hs44.fb b_s)
  refine ownScrR.retp rfl ((hs47.fr L45).fb b_s) ho46 ?_
  · unfold upD; first | (rw [if_pos e1]; show _ = wrapD (rollD s.dat s.Top s.Bot (-1)) false; refine Eq.trans ?_ (congrArg (fun d => wrapD d false) hd3); rfl) | (rw [if_neg e1, if_pos e2]; rfl) | (rw [if_neg e1, if_neg e2]; rfl)
 have e1 : ¬ s.dat.Y = s.dat.Top := by show ¬ s.Y = s.Top; have h9 := h4; simpa using h9
 refine WC.r1 hs3 [0] rfl (WC.cq rfl (fun h48 qh48 => ?_) (fun h48 qh48 => ?_))
 ·have e2 : s.dat.Y > 0 := by show s.Y > 0; have h9 := h48; simpa using h9
  refine WC.region (WL.r 7 hs3 [0] rfl (WL.st tbk hs3 0 rfl rfl (fun _ hs49 => WL.nil (hK2 _ _ (WC.region (WL.r 3 hs49 [] rfl (WL.st tbk hs49 0 rfl rfl (fun _ hs50 => ?_))))))))
  refine WL.nil (retK0 rfl ?_)
  obtain ⟨L51, L52, L53, L54, hs59, ho55, ho56, ho57, ho58⟩ := ownScrR.op hs50 o_s
  have hs60 := (hs59.fb b_s)
  obtain ⟨L62, hs61, ho63⟩ := ownScrR.fl hs60 ho55 ho56 ho57 ho58
  have hs64 := (hs61.fb b_s)
  refine ownScrR.retp rfl ((hs64.fr L62).fb b_s) ho63 ?_
  · unfold upD; first | (rw [if_pos e1]; show _ = wrapD (rollD s.dat s.Top s.Bot (-1)) false; refine Eq.trans ?_ (congrArg (fun d => wrapD d false) hd3); rfl) | (rw [if_neg e1, if_pos e2]; rfl) | (rw [if_neg e1, if_neg e2]; rfl)
 have e2 : ¬ s.dat.Y > 0 := by show ¬ s.Y > 0; have h9 := h48; simpa using h9
 refine WC.skip (hK2 _ _ (WC.region (WL.r 3 hs3 [] rfl (WL.st tbk hs3 0 rfl rfl (fun _ hs65 => WL.nil (retK0 rfl ?_))))))
 obtain ⟨L66, L67, L68, L69, hs74, ho70, ho71, ho72, ho73⟩ := ownScrR.op hs65 o_s
 have hs75 := (hs74.fb b_s)
 obtain ⟨L77, hs76, ho78⟩ := ownScrR.fl hs75 ho70 ho71 ho72 ho73
 have hs79 := (hs76.fb b_s)
 refine ownScrR.retp rfl ((hs79.fr L77).fb b_s) ho78 ?_
 · unfold upD; first | (rw [if_pos e1]; show _ = wrapD (rollD s.dat s.Top s.Bot (-1)) false; refine Eq.trans ?_ (congrArg (fun d => wrapD d false) hd3); rfl) | (rw [if_neg e1, if_pos e2]; rfl) | (rw [if_neg e1, if_neg e2]; rfl)
theorem k62_ (b_s : Nat) (s : ScrR) (L_s : Hp) (w : World) (hb_s : w.heap[b_s]? = some (Obj.cells (List.toArray [i64 s.W, i64 s.H, i64 s.Main.W, i64 s.Main.H, .slice s.Main.Cells.A s.Main.Cells.n s.Main.Cells.c, i64 s.Alt.W, i64 s.Alt.H, .slice s.Alt.Cells.A s.Alt.Cells.n s.Alt.Cells.c, .bool s.OnAlt, i64 s.X, i64 s.Y, .bool s.Wrap, i64 s.A.Fg, i64 s.A.Bg, .bool s.A.Bold, .bool s.A.Under, .bool s.A.Turn, i64 s.Top, i64 s.Bot, .bool s.NoWrap, .bool s.Hide, i64 s.SaveX, i64 s.SaveY, i64 s.SaveA.Fg, i64 s.SaveA.Bg, .bool s.SaveA.Bold, .bool s.SaveA.Under, .bool s.SaveA.Turn, .slice s.Tabs.A s.Tabs.n s.Tabs.c, i64 s.Limit, .slice s.Back.A s.Back.n s.Back.c]) 33 (0, 0))) (o_s : ownScrR s L_s) (h_s : Hh w L_s) (hd_ : (b_s :: L_s.map (·.1)).Nodup) (hsm : smScr 549755813888 s.dat) :
    Calls Tryz.prog 153 #[.pointer (some ⟨b_s, 0, none⟩)] w fun e w' => ∃ r L1, e = .returned (.tuple #[]) ∧ St w (b_s :: L_s.map (·.1)) ([(b_s, Obj.cells (List.toArray [i64 r.W, i64 r.H, i64 r.Main.W, i64 r.Main.H, .slice r.Main.Cells.A r.Main.Cells.n r.Main.Cells.c, i64 r.Alt.W, i64 r.Alt.H, .slice r.Alt.Cells.A r.Alt.Cells.n r.Alt.Cells.c, .bool r.OnAlt, i64 r.X, i64 r.Y, .bool r.Wrap, i64 r.A.Fg, i64 r.A.Bg, .bool r.A.Bold, .bool r.A.Under, .bool r.A.Turn, i64 r.Top, i64 r.Bot, .bool r.NoWrap, .bool r.Hide, i64 r.SaveX, i64 r.SaveY, i64 r.SaveA.Fg, i64 r.SaveA.Bg, .bool r.SaveA.Bold, .bool r.SaveA.Under, .bool r.SaveA.Turn, .slice r.Tabs.A r.Tabs.n r.Tabs.c, i64 r.Limit, .slice r.Back.A r.Back.n r.Back.c]) 33 (0, 0))] ++ L1) w' ∧ ownScrR r L1 ∧ r.dat = saveD s.dat := by
 refine enter 23 Tryz.func153 rfl Tryz.ntmps153 rfl rfl ?_
 have hs1 := St.takeP w b_s _ L_s hb_s h_s hd_
 refine WC.rH hs1.d1 hs1 (fun _ hs2 => ?_)
 refine WH.rn [0, 1, 2, 3, 4, 5, 7, 8, 9, 11, 12, 13] hs2.d1 [] rfl rfl (WH.all [6, 10, 14] (by kernel_rfl) rfl (WHs.cons (i := 6) rfl ?_ (WHs.cons (i := 10) rfl ?_ (WHs.cons (i := 14) rfl ?_ WHs.nil))))
 ·refine WL.r 1 hs2 [0] rfl (WL.nil ⟨hs2.d1, WH.all [10, 14] (by kernel_rfl) rfl (WHs.cons (i := 10) rfl ?_ (WHs.cons (i := 14) rfl ?_ WHs.nil))⟩)
  ·refine WL.r 1 hs2 [0] rfl (WL.nil ⟨hs2.d1, WH.o1 14 rfl (WL.r 1 hs2 [0] rfl (WL.nil ⟨hs2.d1, WH.rn [15, 16] hs2.d1 [] rfl rfl (WH.o1 17 rfl (WL.st tbk hs2 0 rfl rfl (fun _ hs3 => ?_)))⟩))⟩)
   refine WL.nil ⟨hs3.d1, WH.rn [18, 19] hs3.d1 [] rfl rfl (WH.o1 20 rfl (WL.st tbk hs3 0 rfl rfl (fun _ hs4 => WL.nil ⟨hs4.d1, WH.rn [21, 22] hs4.d1 [] rfl rfl (WH.o1 23 rfl (WL.st tbk hs4 0 rfl rfl (fun _ hs5 => ?_)))⟩)))⟩
   refine WL.nil ⟨hs5.d1, WH.dn (retK0 rfl ?_)⟩
   obtain ⟨L6, L7, L8, L9, hs14, ho10, ho11, ho12, ho13⟩ := ownScrR.op hs5 o_s
   have hs15 := (hs14.fb b_s)
   obtain ⟨L17, hs16, ho18⟩ := ownScrR.fl hs15 ho10 ho11 ho12 ho13
   have hs19 := (hs16.fb b_s)
   refine ownScrR.retp rfl ((hs19.fr L17).fb b_s) ho18 ?_
   · rfl
  refine WL.r 1 hs2 [0] rfl (WL.nil ⟨hs2.d1, WH.o1 10 rfl (WL.r 1 hs2 [0] rfl (WL.nil ⟨hs2.d1, WH.rn [15, 16] hs2.d1 [] rfl rfl (WH.o1 17 rfl (WL.st tbk hs2 0 rfl rfl (fun _ hs20 => ?_)))⟩))⟩)
  refine WL.nil ⟨hs20.d1, WH.rn [18, 19] hs20.d1 [] rfl rfl (WH.o1 20 rfl (WL.st tbk hs20 0 rfl rfl (fun _ hs21 => WL.nil ⟨hs21.d1, WH.rn [21, 22] hs21.d1 [] rfl rfl (WH.o1 23 rfl (WL.st tbk hs21 0 rfl rfl (fun _ hs22 => ?_)))⟩)))⟩
  refine WL.nil ⟨hs22.d1, WH.dn (retK0 rfl ?_)⟩
  obtain ⟨L23, L24, L25, L26, hs31, ho27, ho28, ho29, ho30⟩ := ownScrR.op hs22 o_s
  have hs32 := (hs31.fb b_s)
  obtain ⟨L34, hs33, ho35⟩ := ownScrR.fl hs32 ho27 ho28 ho29 ho30
  have hs36 := (hs33.fb b_s)
  refine ownScrR.retp rfl ((hs36.fr L34).fb b_s) ho35 ?_
  · rfl
 ·refine WL.r 1 hs2 [0] rfl (WL.nil ⟨hs2.d1, WH.all [6, 14] (by kernel_rfl) rfl (WHs.cons (i := 6) rfl ?_ (WHs.cons (i := 14) rfl ?_ WHs.nil))⟩)
  ·refine WL.r 1 hs2 [0] rfl (WL.nil ⟨hs2.d1, WH.o1 14 rfl (WL.r 1 hs2 [0] rfl (WL.nil ⟨hs2.d1, WH.rn [15, 16] hs2.d1 [] rfl rfl (WH.o1 17 rfl (WL.st tbk hs2 0 rfl rfl (fun _ hs37 => ?_)))⟩))⟩)
   refine WL.nil ⟨hs37.d1, WH.rn [18, 19] hs37.d1 [] rfl rfl (WH.o1 20 rfl (WL.st tbk hs37 0 rfl rfl (fun _ hs38 => WL.nil ⟨hs38.d1, WH.rn [21, 22] hs38.d1 [] rfl rfl (WH.o1 23 rfl (WL.st tbk hs38 0 rfl rfl (fun _ hs39 => ?_)))⟩)))⟩
   refine WL.nil ⟨hs39.d1, WH.dn (retK0 rfl ?_)⟩
   obtain ⟨L40, L41, L42, L43, hs48, ho44, ho45, ho46, ho47⟩ := ownScrR.op hs39 o_s
   have hs49 := (hs48.fb b_s)
   obtain ⟨L51, hs50, ho52⟩ := ownScrR.fl hs49 ho44 ho45 ho46 ho47
   have hs53 := (hs50.fb b_s)
   refine ownScrR.retp rfl ((hs53.fr L51).fb b_s) ho52 ?_
   · rfl
  refine WL.r 1 hs2 [0] rfl (WL.nil ⟨hs2.d1, WH.o1 6 rfl (WL.r 1 hs2 [0] rfl (WL.nil ⟨hs2.d1, WH.rn [15, 16] hs2.d1 [] rfl rfl (WH.o1 17 rfl (WL.st tbk hs2 0 rfl rfl (fun _ hs54 => ?_)))⟩))⟩)
  refine WL.nil ⟨hs54.d1, WH.rn [18, 19] hs54.d1 [] rfl rfl (WH.o1 20 rfl (WL.st tbk hs54 0 rfl rfl (fun _ hs55 => WL.nil ⟨hs55.d1, WH.rn [21, 22] hs55.d1 [] rfl rfl (WH.o1 23 rfl (WL.st tbk hs55 0 rfl rfl (fun _ hs56 => ?_)))⟩)))⟩
  refine WL.nil ⟨hs56.d1, WH.dn (retK0 rfl ?_)⟩
  obtain ⟨L57, L58, L59, L60, hs65, ho61, ho62, ho63, ho64⟩ := ownScrR.op hs56 o_s
  have hs66 := (hs65.fb b_s)
  obtain ⟨L68, hs67, ho69⟩ := ownScrR.fl hs66 ho61 ho62 ho63 ho64
  have hs70 := (hs67.fb b_s)
  refine ownScrR.retp rfl ((hs70.fr L68).fb b_s) ho69 ?_
  · rfl
 refine WL.r 1 hs2 [0] rfl (WL.nil ⟨hs2.d1, WH.all [6, 10] (by kernel_rfl) rfl (WHs.cons (i := 6) rfl ?_ (WHs.cons (i := 10) rfl ?_ WHs.nil))⟩)
 ·refine WL.r 1 hs2 [0] rfl (WL.nil ⟨hs2.d1, WH.o1 10 rfl (WL.r 1 hs2 [0] rfl (WL.nil ⟨hs2.d1, WH.rn [15, 16] hs2.d1 [] rfl rfl (WH.o1 17 rfl (WL.st tbk hs2 0 rfl rfl (fun _ hs71 => ?_)))⟩))⟩)
  refine WL.nil ⟨hs71.d1, WH.rn [18, 19] hs71.d1 [] rfl rfl (WH.o1 20 rfl (WL.st tbk hs71 0 rfl rfl (fun _ hs72 => WL.nil ⟨hs72.d1, WH.rn [21, 22] hs72.d1 [] rfl rfl (WH.o1 23 rfl (WL.st tbk hs72 0 rfl rfl (fun _ hs73 => ?_)))⟩)))⟩
  refine WL.nil ⟨hs73.d1, WH.dn (retK0 rfl ?_)⟩
  obtain ⟨L74, L75, L76, L77, hs82, ho78, ho79, ho80, ho81⟩ := ownScrR.op hs73 o_s
  have hs83 := (hs82.fb b_s)
  obtain ⟨L85, hs84, ho86⟩ := ownScrR.fl hs83 ho78 ho79 ho80 ho81
  have hs87 := (hs84.fb b_s)
  refine ownScrR.retp rfl ((hs87.fr L85).fb b_s) ho86 ?_
  · rfl
 refine WL.r 1 hs2 [0] rfl (WL.nil ⟨hs2.d1, WH.o1 6 rfl (WL.r 1 hs2 [0] rfl (WL.nil ⟨hs2.d1, WH.rn [15, 16] hs2.d1 [] rfl rfl (WH.o1 17 rfl (WL.st tbk hs2 0 rfl rfl (fun _ hs88 => ?_)))⟩))⟩)
 refine WL.nil ⟨hs88.d1, WH.rn [18, 19] hs88.d1 [] rfl rfl (WH.o1 20 rfl (WL.st tbk hs88 0 rfl rfl (fun _ hs89 => WL.nil ⟨hs89.d1, WH.rn [21, 22] hs89.d1 [] rfl rfl (WH.o1 23 rfl (WL.st tbk hs89 0 rfl rfl (fun _ hs90 => ?_)))⟩)))⟩
 refine WL.nil ⟨hs90.d1, WH.dn (retK0 rfl ?_)⟩
 obtain ⟨L91, L92, L93, L94, hs99, ho95, ho96, ho97, ho98⟩ := ownScrR.op hs90 o_s
 have hs100 := (hs99.fb b_s)
 obtain ⟨L102, hs101, ho103⟩ := ownScrR.fl hs100 ho95 ho96 ho97 ho98
 have hs104 := (hs101.fb b_s)
 refine ownScrR.retp rfl ((hs104.fr L102).fb b_s) ho103 ?_
 · rfl
theorem k63_ (b_s : Nat) (s : ScrR) (L_s : Hp) (w : World) (hb_s : w.heap[b_s]? = some (Obj.cells (List.toArray [i64 s.W, i64 s.H, i64 s.Main.W, i64 s.Main.H, .slice s.Main.Cells.A s.Main.Cells.n s.Main.Cells.c, i64 s.Alt.W, i64 s.Alt.H, .slice s.Alt.Cells.A s.Alt.Cells.n s.Alt.Cells.c, .bool s.OnAlt, i64 s.X, i64 s.Y, .bool s.Wrap, i64 s.A.Fg, i64 s.A.Bg, .bool s.A.Bold, .bool s.A.Under, .bool s.A.Turn, i64 s.Top, i64 s.Bot, .bool s.NoWrap, .bool s.Hide, i64 s.SaveX, i64 s.SaveY, i64 s.SaveA.Fg, i64 s.SaveA.Bg, .bool s.SaveA.Bold, .bool s.SaveA.Under, .bool s.SaveA.Turn, .slice s.Tabs.A s.Tabs.n s.Tabs.c, i64 s.Limit, .slice s.Back.A s.Back.n s.Back.c]) 33 (0, 0))) (o_s : ownScrR s L_s) (h_s : Hh w L_s) (hd_ : (b_s :: L_s.map (·.1)).Nodup) (hsm : smScr 549755813888 s.dat) :
    Calls Tryz.prog 154 #[.pointer (some ⟨b_s, 0, none⟩)] w fun e w' => ∃ r L1, e = .returned (.tuple #[]) ∧ St w (b_s :: L_s.map (·.1)) ([(b_s, Obj.cells (List.toArray [i64 r.W, i64 r.H, i64 r.Main.W, i64 r.Main.H, .slice r.Main.Cells.A r.Main.Cells.n r.Main.Cells.c, i64 r.Alt.W, i64 r.Alt.H, .slice r.Alt.Cells.A r.Alt.Cells.n r.Alt.Cells.c, .bool r.OnAlt, i64 r.X, i64 r.Y, .bool r.Wrap, i64 r.A.Fg, i64 r.A.Bg, .bool r.A.Bold, .bool r.A.Under, .bool r.A.Turn, i64 r.Top, i64 r.Bot, .bool r.NoWrap, .bool r.Hide, i64 r.SaveX, i64 r.SaveY, i64 r.SaveA.Fg, i64 r.SaveA.Bg, .bool r.SaveA.Bold, .bool r.SaveA.Under, .bool r.SaveA.Turn, .slice r.Tabs.A r.Tabs.n r.Tabs.c, i64 r.Limit, .slice r.Back.A r.Back.n r.Back.c]) 33 (0, 0))] ++ L1) w' ∧ ownScrR r L1 ∧ r.dat = backD s.dat := by
 refine enter 26 Tryz.func154 rfl Tryz.ntmps154 rfl rfl ?_
 have hs1 := St.takeP w b_s _ L_s hb_s h_s hd_
 refine WC.rH hs1.d1 hs1 (fun _ hs2 => ?_)
 refine WH.rn [0, 1, 2, 3, 4, 5, 6, 8, 9, 10, 12, 13, 14] hs2.d1 [] rfl rfl (WH.all [7, 11, 15] (by kernel_rfl) rfl (WHs.cons (i := 7) rfl ?_ (WHs.cons (i := 11) rfl ?_ (WHs.cons (i := 15) rfl ?_ WHs.nil))))
 ·refine WL.r 1 hs2 [0] rfl (WL.nil ⟨hs2.d1, WH.all [11, 15] (by kernel_rfl) rfl (WHs.cons (i := 11) rfl ?_ (WHs.cons (i := 15) rfl ?_ WHs.nil))⟩)
  ·refine WL.r 1 hs2 [0] rfl (WL.nil ⟨hs2.d1, WH.o1 15 rfl (WL.r 1 hs2 [0] rfl (WL.nil ⟨hs2.d1, WH.rn [16, 17] hs2.d1 [] rfl rfl (WH.o1 18 rfl (WL.st tbk hs2 0 rfl rfl (fun _ hs3 => ?_)))⟩))⟩)
   refine WL.nil ⟨hs3.d1, WH.rn [19, 20] hs3.d1 [] rfl rfl (WH.o1 21 rfl (WL.st tbk hs3 0 rfl rfl (fun _ hs4 => WL.nil ⟨hs4.d1, WH.rn [22, 23] hs4.d1 [] rfl rfl (WH.o1 24 rfl (WL.st tbk hs4 0 rfl rfl (fun _ hs5 => ?_)))⟩)))⟩
   refine WL.nil ⟨hs5.d1, WH.rn [25, 26] hs5.d1 [] rfl rfl (WH.o1 27 rfl (WL.st tbk hs5 0 rfl rfl (fun _ hs6 => WL.nil ⟨hs6.d1, WH.dn (retK0 rfl ?_)⟩)))⟩
   obtain ⟨L7, L8, L9, L10, hs15, ho11, ho12, ho13, ho14⟩ := ownScrR.op hs6 o_s
   have hs16 := (hs15.fb b_s)
   obtain ⟨L18, hs17, ho19⟩ := ownScrR.fl hs16 ho11 ho12 ho13 ho14
   have hs20 := (hs17.fb b_s)
   refine ownScrR.retp rfl ((hs20.fr L18).fb b_s) ho19 ?_
   · rfl
  refine WL.r 1 hs2 [0] rfl (WL.nil ⟨hs2.d1, WH.o1 11 rfl (WL.r 1 hs2 [0] rfl (WL.nil ⟨hs2.d1, WH.rn [16, 17] hs2.d1 [] rfl rfl (WH.o1 18 rfl (WL.st tbk hs2 0 rfl rfl (fun _ hs21 => ?_)))⟩))⟩)
  refine WL.nil ⟨hs21.d1, WH.rn [19, 20] hs21.d1 [] rfl rfl (WH.o1 21 rfl (WL.st tbk hs21 0 rfl rfl (fun _ hs22 => WL.nil ⟨hs22.d1, WH.rn [22, 23] hs22.d1 [] rfl rfl (WH.o1 24 rfl (WL.st tbk hs22 0 rfl rfl (fun _ hs23 => ?_)))⟩)))⟩
  refine WL.nil ⟨hs23.d1, WH.rn [25, 26] hs23.d1 [] rfl rfl (WH.o1 27 rfl (WL.st tbk hs23 0 rfl rfl (fun _ hs24 => WL.nil ⟨hs24.d1, WH.dn (retK0 rfl ?_)⟩)))⟩
  obtain ⟨L25, L26, L27, L28, hs33, ho29, ho30, ho31, ho32⟩ := ownScrR.op hs24 o_s
  have hs34 := (hs33.fb b_s)
  obtain ⟨L36, hs35, ho37⟩ := ownScrR.fl hs34 ho29 ho30 ho31 ho32
  have hs38 := (hs35.fb b_s)
  refine ownScrR.retp rfl ((hs38.fr L36).fb b_s) ho37 ?_
  · rfl
 ·refine WL.r 1 hs2 [0] rfl (WL.nil ⟨hs2.d1, WH.all [7, 15] (by kernel_rfl) rfl (WHs.cons (i := 7) rfl ?_ (WHs.cons (i := 15) rfl ?_ WHs.nil))⟩)
  ·refine WL.r 1 hs2 [0] rfl (WL.nil ⟨hs2.d1, WH.o1 15 rfl (WL.r 1 hs2 [0] rfl (WL.nil ⟨hs2.d1, WH.rn [16, 17] hs2.d1 [] rfl rfl (WH.o1 18 rfl (WL.st tbk hs2 0 rfl rfl (fun _ hs39 => ?_)))⟩))⟩)
   refine WL.nil ⟨hs39.d1, WH.rn [19, 20] hs39.d1 [] rfl rfl (WH.o1 21 rfl (WL.st tbk hs39 0 rfl rfl (fun _ hs40 => WL.nil ⟨hs40.d1, WH.rn [22, 23] hs40.d1 [] rfl rfl (WH.o1 24 rfl (WL.st tbk hs40 0 rfl rfl (fun _ hs41 => ?_)))⟩)))⟩
   refine WL.nil ⟨hs41.d1, WH.rn [25, 26] hs41.d1 [] rfl rfl (WH.o1 27 rfl (WL.st tbk hs41 0 rfl rfl (fun _ hs42 => WL.nil ⟨hs42.d1, WH.dn (retK0 rfl ?_)⟩)))⟩
   obtain ⟨L43, L44, L45, L46, hs51, ho47, ho48, ho49, ho50⟩ := ownScrR.op hs42 o_s
   have hs52 := (hs51.fb b_s)
   obtain ⟨L54, hs53, ho55⟩ := ownScrR.fl hs52 ho47 ho48 ho49 ho50
   have hs56 := (hs53.fb b_s)
   refine ownScrR.retp rfl ((hs56.fr L54).fb b_s) ho55 ?_
   · rfl
  refine WL.r 1 hs2 [0] rfl (WL.nil ⟨hs2.d1, WH.o1 7 rfl (WL.r 1 hs2 [0] rfl (WL.nil ⟨hs2.d1, WH.rn [16, 17] hs2.d1 [] rfl rfl (WH.o1 18 rfl (WL.st tbk hs2 0 rfl rfl (fun _ hs57 => ?_)))⟩))⟩)
  refine WL.nil ⟨hs57.d1, WH.rn [19, 20] hs57.d1 [] rfl rfl (WH.o1 21 rfl (WL.st tbk hs57 0 rfl rfl (fun _ hs58 => WL.nil ⟨hs58.d1, WH.rn [22, 23] hs58.d1 [] rfl rfl (WH.o1 24 rfl (WL.st tbk hs58 0 rfl rfl (fun _ hs59 => ?_)))⟩)))⟩
  refine WL.nil ⟨hs59.d1, WH.rn [25, 26] hs59.d1 [] rfl rfl (WH.o1 27 rfl (WL.st tbk hs59 0 rfl rfl (fun _ hs60 => WL.nil ⟨hs60.d1, WH.dn (retK0 rfl ?_)⟩)))⟩
  obtain ⟨L61, L62, L63, L64, hs69, ho65, ho66, ho67, ho68⟩ := ownScrR.op hs60 o_s
  have hs70 := (hs69.fb b_s)
  obtain ⟨L72, hs71, ho73⟩ := ownScrR.fl hs70 ho65 ho66 ho67 ho68
  have hs74 := (hs71.fb b_s)
  refine ownScrR.retp rfl ((hs74.fr L72).fb b_s) ho73 ?_
  · rfl
 refine WL.r 1 hs2 [0] rfl (WL.nil ⟨hs2.d1, WH.all [7, 11] (by kernel_rfl) rfl (WHs.cons (i := 7) rfl ?_ (WHs.cons (i := 11) rfl ?_ WHs.nil))⟩)
 ·refine WL.r 1 hs2 [0] rfl (WL.nil ⟨hs2.d1, WH.o1 11 rfl (WL.r 1 hs2 [0] rfl (WL.nil ⟨hs2.d1, WH.rn [16, 17] hs2.d1 [] rfl rfl (WH.o1 18 rfl (WL.st tbk hs2 0 rfl rfl (fun _ hs75 => ?_)))⟩))⟩)
  refine WL.nil ⟨hs75.d1, WH.rn [19, 20] hs75.d1 [] rfl rfl (WH.o1 21 rfl (WL.st tbk hs75 0 rfl rfl (fun _ hs76 => WL.nil ⟨hs76.d1, WH.rn [22, 23] hs76.d1 [] rfl rfl (WH.o1 24 rfl (WL.st tbk hs76 0 rfl rfl (fun _ hs77 => ?_)))⟩)))⟩
  refine WL.nil ⟨hs77.d1, WH.rn [25, 26] hs77.d1 [] rfl rfl (WH.o1 27 rfl (WL.st tbk hs77 0 rfl rfl (fun _ hs78 => WL.nil ⟨hs78.d1, WH.dn (retK0 rfl ?_)⟩)))⟩
  obtain ⟨L79, L80, L81, L82, hs87, ho83, ho84, ho85, ho86⟩ := ownScrR.op hs78 o_s
  have hs88 := (hs87.fb b_s)
  obtain ⟨L90, hs89, ho91⟩ := ownScrR.fl hs88 ho83 ho84 ho85 ho86
  have hs92 := (hs89.fb b_s)
  refine ownScrR.retp rfl ((hs92.fr L90).fb b_s) ho91 ?_
  · rfl
 refine WL.r 1 hs2 [0] rfl (WL.nil ⟨hs2.d1, WH.o1 7 rfl (WL.r 1 hs2 [0] rfl (WL.nil ⟨hs2.d1, WH.rn [16, 17] hs2.d1 [] rfl rfl (WH.o1 18 rfl (WL.st tbk hs2 0 rfl rfl (fun _ hs93 => ?_)))⟩))⟩)
 refine WL.nil ⟨hs93.d1, WH.rn [19, 20] hs93.d1 [] rfl rfl (WH.o1 21 rfl (WL.st tbk hs93 0 rfl rfl (fun _ hs94 => WL.nil ⟨hs94.d1, WH.rn [22, 23] hs94.d1 [] rfl rfl (WH.o1 24 rfl (WL.st tbk hs94 0 rfl rfl (fun _ hs95 => ?_)))⟩)))⟩
 refine WL.nil ⟨hs95.d1, WH.rn [25, 26] hs95.d1 [] rfl rfl (WH.o1 27 rfl (WL.st tbk hs95 0 rfl rfl (fun _ hs96 => WL.nil ⟨hs96.d1, WH.dn (retK0 rfl ?_)⟩)))⟩
 obtain ⟨L97, L98, L99, L100, hs105, ho101, ho102, ho103, ho104⟩ := ownScrR.op hs96 o_s
 have hs106 := (hs105.fb b_s)
 obtain ⟨L108, hs107, ho109⟩ := ownScrR.fl hs106 ho101 ho102 ho103 ho104
 have hs110 := (hs107.fb b_s)
 refine ownScrR.retp rfl ((hs110.fr L108).fb b_s) ho109 ?_
 · rfl
open Go Go.RowKit Go.Shelf
theorem frozen_of_heap {w : World} {b k : Nat} {cl : List Value} {e : TypeId} {lo hi : Nat} (h : w.heap[b]? = some (.cells cl.toArray e (lo, hi))) (hf : hi ≤ lo ∨ hi ≤ k ∨ k < lo) : w.frozen? ⟨b, k, none⟩ = false := by
 simp only [World.frozen?, h, Bool.and_eq_false_iff, decide_eq_false_iff_not]
 omega
theorem some_of_heap {w : World} {b k : Nat} {cl : List Value} {e : TypeId} {fz : Nat × Nat} (h : w.heap[b]? = some (.cells cl.toArray e fz)) (hk : k < cl.length) : (w.cell? ⟨b, k, none⟩).isSome = true := by
 rw [cell_of_heap (v := cl[k]) h (by simp [hk])]; rfl
theorem St.setCells (P : Program) {w0 w : World} {T : List Nat} {L : Hp} (hst : St w0 T L w) (i : Nat) {b off : Nat} {cl vs : List Value} {e : TypeId} {lo hi : Nat} (hi' : nthL L i = some (b, .cells cl.toArray e (lo, hi))) (h1 : ∀ v, v ∈ vs → v.oneCell' = true) (hlt : off + vs.length ≤ cl.length) (hfz : hi ≤ lo ∨ hi ≤ off ∨ off + vs.length ≤ lo) :
  St w0 T (setL L i (.cells (cl.take off ++ vs ++ cl.drop (off + vs.length)).toArray e (lo, hi))) (w.setCells b off vs) := by
 obtain ⟨w', hr, hs⟩ := hst.stored (P := P) i (off := off) hi' h1 hlt hfz
 have hh := (hst.own _ (nthL_mem hi')).1
 have h2 := run_storeCells_cells (P := P) b off vs 0 w (fun j hj => by rw [Nat.add_zero]; exact some_of_heap hh (by omega)) (fun j hj => by rw [Nat.add_zero]; exact frozen_of_heap hh (by omega)) h1
 rw [hr] at h2
 injection h2 with _ h3
 rw [Nat.add_zero] at h3
 exact h3 ▸ hs
section
variable {α : Type} {P Q R : List α} {x : α}
theorem ins_shift (hR : 1 ≤ R.length) :
  ((P ++ Q ++ R).take (P.length + 1) ++ Q ++ (P ++ Q ++ R).drop (P.length + 1 + Q.length)).take P.length ++ [x] ++ ((P ++ Q ++ R).take (P.length + 1) ++ Q ++ (P ++ Q ++ R).drop (P.length + 1 + Q.length)).drop (P.length + 1) = P ++ [x] ++ Q ++ R.drop 1 := by
 have hQR : ((Q ++ R).take 1).length = 1 := by rw [List.length_take, List.length_append]; omega
 have e1 : (P ++ Q ++ R).take (P.length + 1) = P ++ (Q ++ R).take 1 := by rw [List.append_assoc, List.take_length_add_append]
 have e2 : (P ++ Q ++ R).drop (P.length + 1 + Q.length) = R.drop 1 := by rw [show P.length + 1 + Q.length = (P ++ Q).length + 1 by rw [List.length_append]; omega, List.drop_length_add_append]
 rw [e1, e2]
 have e3 : (P ++ (Q ++ R).take 1 ++ Q ++ R.drop 1).take P.length = P := by rw [List.append_assoc, List.append_assoc]; exact List.take_left
 have e4 : (P ++ (Q ++ R).take 1 ++ Q ++ R.drop 1).drop (P.length + 1) = Q ++ R.drop 1 := by
  rw [List.append_assoc (P ++ _), List.drop_left' (by rw [List.length_append]; omega)]
 rw [e3, e4]
 simp only [List.append_assoc]
theorem ins_new (Z : List α) (hZ : Q.length + 1 ≤ Z.length) :
  (((P ++ Z).take P.length ++ [x] ++ (P ++ Z).drop (P.length + 1)).take (P.length + 1) ++ Q ++ ((P ++ Z).take P.length ++ [x] ++ (P ++ Z).drop (P.length + 1)).drop (P.length + 1 + Q.length)) = P ++ [x] ++ Q ++ Z.drop (Q.length + 1) := by
 have e0 : (P ++ Z).take P.length ++ [x] ++ (P ++ Z).drop (P.length + 1) = (P ++ [x]) ++ Z.drop 1 := by
  rw [List.take_left, List.drop_length_add_append]
 have hp : (P ++ [x]).length = P.length + 1 := by simp
 rw [e0, ← hp, List.take_left, List.drop_length_add_append, List.drop_drop, Nat.add_comm 1]
end
theorem rowsI : ∀ l : List Int, rows encI l = l.map (Value.int .i64)
 | [] => rfl
 | x :: l => by rw [rows_cons, rowsI l]; rfl
section
variable {P : Program} {ρ : Ren} {w : World}
theorem search_rd (L : Lays2.n25 P ρ) {A : Option Addr} {n c : Nat} {s : List Int} {x : Int} (f_s : SlF encI w A n s) (hasc : s.Pairwise (· ≤ ·)) (hn : n ≤ 1048576) :
  Calls P (ρ.f 25) #[.slice A n c, .int .i64 x] w fun e w' => e = .returned (.tuple #[.int .i64 (s.countP (· < x) : Nat), .bool (s.contains x)]) ∧ St w [] [] w' := by
 have hl := f_s.len
 by_cases h0 : n = 0
 ·subst h0
  obtain rfl : s = [] := List.eq_nil_of_length_eq_zero hl
  refine (Any.slices_BinarySearch_int_empty L A c x w).mono ?_
  rintro e w' ⟨rfl, rfl⟩
  exact ⟨rfl, St.init _⟩
 ·have hr := f_s.rd
  have hat : ∀ j, (hj : j < s.length) → (rows encI s)[j]? = some (.int .i64 (s.getD j 0)) := fun j hj => by
   rw [rowsI, List.getElem?_map, List.getElem?_eq_getElem hj, List.getD_eq_getElem?_getD, List.getElem?_eq_getElem hj]
   rfl
  cases A with
  | none => have := hr.some_ (by omega); cases this
  | some a =>
   obtain ⟨b, off, sp⟩ := a
   cases sp with
   | some q =>
    have h1 := hr.cell 0 _ (hat 0 (by omega))
    have e1 : (adr (some ⟨b, off, some q⟩)).add 0 = ⟨b, off, some q⟩ := by unfold adr Addr.add; split <;> simp_all
    rw [e1] at h1
    unfold World.cell? at h1
    split at h1 <;> simp at h1
   | none =>
    refine (Any.slices_BinarySearch_int L b off n c s x w (by omega) (by omega) (fun j hj => ?_) (by rw [List.take_of_length_le (by omega)]; exact hasc)).mono ?_
    ·have h1 := hr.cell j _ (hat j hj)
     rwa [show (adr (some ⟨b, off, none⟩)).add j = ⟨b, off + j, none⟩ from addr_at b off j] at h1
    ·rintro e w' ⟨rfl, q, rfl⟩
     rw [List.take_of_length_le (by omega)]
     exact ⟨rfl, ⟨rfl, rfl, rfl, Nat.le_refl _, fun _ _ _ => rfl, fun _ h => (by cases h), List.nodup_nil⟩⟩
theorem insert_own (L : Lays2.n21 P ρ) {v : Value} {s : List Int} {Ls : Hp} {i b c0 : Nat} {x : Int} (o_s : OwnF encI (ρ.t 3) v s Ls) (h_s : ∀ p, p ∈ Ls → w.heap[p.1]? = some p.2) (hi : i ≤ s.length) (hn : s.length ≤ 1048576) (hb : w.heap[b]? = some (.cells [Value.int .i64 x].toArray (ρ.t 3) (0, 0))) (hne : b ∉ Ls.map (·.1)) :
  Calls P (ρ.f 21) #[v, .int .i64 i, .slice (some ⟨b, 0, none⟩) 1 c0] w fun e w' => ∃ A c L1, e = .returned (.slice A (s.length + 1) c) ∧ St w (Ls.map (·.1)) L1 w' ∧ OwnF encI (ρ.t 3) (.slice A (s.length + 1) c) (s.take i ++ [x] ++ s.drop i) L1 := by
 have hst : St w (Ls.map (·.1)) Ls w := St.take w Ls h_s o_s.keys
 have hl : (s.take i ++ [x] ++ s.drop i).length = s.length + 1 := by simp; omega
 have hvs : ∀ j u, [Value.int .i64 x][j]? = some u → w.cell? ⟨b, 0 + j, none⟩ = some u := fun j u hj => by rw [Nat.zero_add]; exact cell_of_heap hb hj
 have h1v : ∀ u ∈ [Value.int .i64 x], u.oneCell' = true := by intro u hu; rw [List.mem_singleton] at hu; subst hu; rfl
 have hsa : w.shape? b = some (ρ.t 3, 1) := by simp [World.shape?, hb]
 have hfa : w.frozen? ⟨b, 0, none⟩ = false := frozen_of_heap hb (by omega)
 have hfe : w.frozen? ⟨b, 1, none⟩ = false := frozen_of_heap hb (by omega)
 have hml : maxLen = 9223372036854775807 := rfl
 -- the parts
 generalize hP : s.take i = p at hl ⊢
 generalize hQ : s.drop i = q at hl ⊢
 have hpq : s = p ++ q := by rw [← hP, ← hQ, List.take_append_drop]
 have hpl : p.length = i := by rw [← hP, List.length_take]; omega
 have hql : q.length = s.length - i := by rw [← hQ, List.length_drop]
 have rl : ∀ l : List Int, (rows encI l).length = l.length := fun l => by rw [rows_len]; exact Nat.mul_one _
 have hrow : rows encI (p ++ [x] ++ q) = rows encI p ++ [Value.int .i64 x] ++ rows encI q := by rw [rows_append, rows_append]; rfl
 have hrl := rl (p ++ [x] ++ q)
 have hrs : rows encI s = rows encI p ++ rows encI q := by rw [hpq, rows_append]
 have htp : (rows encI p ++ rows encI q).take i = rows encI p := List.take_left' (by rw [rl]; exact hpl)
 have hdp : (rows encI p ++ rows encI q).drop i = rows encI q := List.drop_left' (by rw [rl]; exact hpl)
 have rp := rl p
 have rq := rl q
 have hz : ∀ n, (Builtin.zeroCells (Value.int .i64 0).cells n).toList.length = n := fun n => by rw [Array.length_toList, size_zeroCells]; exact Nat.mul_one _
 -- a block that is ours
 have fin : ∀ (w' : World) (g cap lo hi' : Nat) (pre cl : List Value), St w (Ls.map (·.1)) ([(g, .cells (pre ++ cl).toArray (ρ.t 3) (lo, hi'))]) w' → cl.length = cap → s.length + 1 ≤ cap → cap ≤ maxLen → cl.take (s.length + 1) = rows encI (p ++ [x] ++ q) → (hi' ≤ lo ∨ (pre ++ cl).length ≤ lo) →
   ∃ A c L1, (Ending.returned (.slice (some ⟨g, pre.length, none⟩) (s.length + 1) cap)) = .returned (.slice A (s.length + 1) c) ∧ St w (Ls.map (·.1)) L1 w' ∧ OwnF encI (ρ.t 3) (.slice A (s.length + 1) c) (p ++ [x] ++ q) L1 := by
  intro w' g cap lo hi' pre cl hs h1 h2 h3 h4 h5
  refine ⟨_, _, _, rfl, hs, by rw [rows_len], .inr ⟨g, cap, pre.length, pre, cl, (lo, hi'), by rw [hl], rfl, by rw [hl]; exact h2, h3, by rw [h1]; exact (Nat.mul_one _).symm, ?_, h5, rfl⟩⟩
  rw [hl, ← h4]; exact congrArg (fun k => cl.take k) (Nat.mul_one _)
 have growEnd : ∀ (A : Option Addr) (cap : Nat), i = s.length → s.length ≤ cap → cap < s.length + 1 → (A = none → s.length = 0) → (∀ a, A = some a → ∀ j u, (rows encI p ++ rows encI q)[j]? = some u → w.cell? (a.add j) = some u) →
   Calls P (ρ.f 21) #[.slice A s.length cap, .int .i64 i, .slice (some ⟨b, 0, none⟩) 1 c0] w fun e w' => ∃ A c L1, e = .returned (.slice A (s.length + 1) c) ∧ St w (Ls.map (·.1)) L1 w' ∧ OwnF encI (ρ.t 3) (.slice A (s.length + 1) c) (p ++ [x] ++ q) L1 := by
  intro A cap e1 h1 h2 h3 h4
  rw [show ((i : Nat) : Int) = ((s.length : Nat) : Int) by rw [e1]]
  refine (Any2.slices_Insert_int_end_grow L A s.length cap b 0 1 c0 (rows encI p ++ rows encI q) [.int .i64 x] w (by omega) h1 h2 (by omega) (by rw [List.length_append]; omega) rfl h3 h4 hvs h1v).mono ?_
  rintro e w' ⟨rfl, rfl⟩
  have hq0 : q = [] := List.eq_nil_of_length_eq_zero (by omega)
  have hge := grownCap_ge w (s.length + 1) cap (ρ.t 3)
  have hcm : grownCap w (s.length + 1) cap (ρ.t 3) ≤ maxLen := grownCap_le_maxLen w (s.length + 1) cap (ρ.t 3) (by omega)
  have ec : ((rows encI p ++ rows encI q ++ [Value.int .i64 x]).toArray ++ Builtin.zeroCells (Value.int .i64 0).cells (grownCap w (s.length + 1) cap (ρ.t 3) - (s.length + 1))) = ([] ++ (rows encI (p ++ [x] ++ q) ++ (Builtin.zeroCells (Value.int .i64 0).cells (grownCap w (s.length + 1) cap (ρ.t 3) - (s.length + 1))).toList)).toArray := by
   rw [hrow, hq0]; apply Array.toList_inj.1; simp [rows_nil]
  rw [ec]
  refine fin _ w.heap.size _ 0 0 [] (rows encI (p ++ [x] ++ q) ++ (Builtin.zeroCells (Value.int .i64 0).cells (grownCap w (s.length + 1) cap (ρ.t 3) - (s.length + 1))).toList) ?_ ?_ hge hcm (List.take_left' (by omega)) (.inl (Nat.le_refl _))
  ·exact (hst.drew.alloc _).drop (List.Sublist.cons_cons _ (List.nil_sublist _))
  ·rw [List.length_append, hrl, hl, hz]
   omega
 rcases o_s.2 with ⟨⟨A, rfl⟩, h0, rfl⟩ | ⟨g, cap, o, pre, cl, ⟨lo, hi'⟩, rfl, rfl, hnc, hcm, hcl, htk, hfz, rfl⟩
 ·have h2 := growEnd A 0 (by omega) (by omega) (by omega) (fun _ => h0) (fun a _ j u hj => by
   rw [List.getElem?_eq_none (by rw [List.length_append]; omega)] at hj; cases hj)
  rwa [h0] at h2 ⊢
 ·have hh := h_s _ List.mem_cons_self
  simp only at hh hfz
  have hcl' : cl.length = cap := by rw [hcl]; exact Nat.mul_one _
  have htk' : cl.take s.length = rows encI p ++ rows encI q := by rw [← hrs, ← htk]; exact congrArg (fun k => cl.take k) (Nat.mul_one _).symm
  have hpc : (pre ++ cl).length = pre.length + cl.length := List.length_append
  have hcs : ∀ j u, (rows encI p ++ rows encI q)[j]? = some u → w.cell? ⟨g, pre.length + j, none⟩ = some u := fun j u hj => by
   refine cell_of_heap hh ?_
   rw [List.getElem?_append_right (by omega), show pre.length + j - pre.length = j by omega, ← hj, ← htk', List.getElem?_take]
   have hj2 := (List.getElem?_eq_some_iff.1 hj).1
   rw [List.length_append] at hj2
   rw [if_pos (by omega)]
  have hgb : b ≠ g := fun h9 => hne (by rw [h9]; exact List.mem_cons_self)
  by_cases hroom : s.length + 1 ≤ cap
  ·obtain ⟨r, hr⟩ : ∃ r, cl = rows encI p ++ rows encI q ++ r := ⟨cl.drop s.length, by rw [← htk', List.take_append_drop]⟩
   have hrlen : r.length = cap - s.length := by
    have h9 := congrArg List.length hr
    rw [List.length_append, List.length_append] at h9
    omega
   by_cases he : i = s.length
   ·rw [show ((i : Nat) : Int) = ((s.length : Nat) : Int) by rw [he]]
    refine (Any2.slices_Insert_int_end_room L g pre.length s.length cap b 0 1 c0 [.int .i64 x] w (by omega) hroom (by omega) rfl (fun j hj => some_of_heap hh (by omega)) (fun j hj => frozen_of_heap hh (by omega)) hvs h1v).mono ?_
    rintro e w' ⟨rfl, rfl⟩
    have h2 := St.setCells P hst 0 (off := pre.length + s.length) (vs := [.int .i64 x]) rfl h1v (by simp only [List.length_singleton]; omega) (by simp only [List.length_singleton]; omega)
    rw [splice_pre] at h2
    have hq0 : q = [] := List.eq_nil_of_length_eq_zero (by omega)
    refine fin _ g cap lo hi' pre _ h2 ?_ hroom hcm ?_ ?_
    ·simp only [List.length_append, List.length_take, List.length_drop, List.length_singleton]; omega
    ·rw [htk', hrow, hq0, rows_nil, List.append_nil, List.append_nil]
     exact List.take_left' (by rw [List.length_append, rl, List.length_singleton, hpl, he])
    ·simp only [List.length_append, List.length_take, List.length_drop, List.length_singleton]; omega
   ·refine (Any2.slices_Insert_int_shift L g pre.length s.length cap i b 0 1 c0 (rows encI p ++ rows encI q) [.int .i64 x] w (by omega) (by omega) hroom (by omega) hgb (by rw [List.length_append]; omega) rfl hcs (fun j hj => some_of_heap hh (by omega)) (fun j hj => frozen_of_heap hh (by omega)) hvs (fun u hu => by rw [← rows_append] at hu; exact rows_one u hu) h1v (ρ.t 3) (ρ.t 3) 1 (pre ++ cl).length hsa (by simp [World.shape?, hh]) (by omega) hfa hfe).mono ?_
    rintro e w' ⟨rfl, rfl⟩
    rw [hdp]
    have h2 := St.setCells P hst.drew 0 (off := pre.length + (i + 1)) (vs := rows encI q) rfl rows_one (by omega) (by omega)
    rw [splice_pre] at h2
    have h3 := St.setCells P h2 0 (off := pre.length + i) (vs := [.int .i64 x]) rfl h1v (by simp only [List.length_append, List.length_take, List.length_drop, List.length_singleton]; omega) (by simp only [List.length_append, List.length_take, List.length_drop, List.length_singleton]; omega)
    rw [splice_pre] at h3
    have e9 := ins_shift (P := rows encI p) (Q := rows encI q) (R := r) (x := Value.int .i64 x) (by omega)
    rw [← hr, rp, hpl] at e9
    have e8 : cl.take i ++ [Value.int .i64 x] ++ cl.drop (i + 1) = cl.take i ++ [Value.int .i64 x] ++ cl.drop (i + 1) := rfl
    refine fin _ g cap lo hi' pre _ h3 ?_ hroom hcm ?_ ?_
    ·simp only [List.length_append, List.length_take, List.length_drop, List.length_singleton]; omega
    ·rw [show [Value.int .i64 x].length = 1 from rfl, e9, hrow]
     exact List.take_left' (by simp only [List.length_append, List.length_singleton]; omega)
    ·simp only [List.length_append, List.length_take, List.length_drop, List.length_singleton]; omega
  ·by_cases he : i = s.length
   ·exact growEnd _ cap he hnc (by omega) (fun h9 => by cases h9) (fun a ha j u hj => by cases ha; rw [addr_at]; exact hcs j u hj)
   ·refine (Any2.slices_Insert_int_grow L g pre.length s.length cap i b 0 1 c0 (rows encI p ++ rows encI q) [.int .i64 x] w (by omega) (by omega) hnc (by omega) (by omega) (by rw [List.length_append]; omega) rfl hcs hvs (fun u hu => by rw [← rows_append] at hu; exact rows_one u hu) h1v).mono ?_
    rintro e w' ⟨rfl, rfl⟩
    rw [hdp, htp]
    have hge := grownCap_ge w (s.length + 1) cap (ρ.t 3)
    have hcm : grownCap w (s.length + 1) cap (ρ.t 3) ≤ maxLen := grownCap_le_maxLen w (s.length + 1) cap (ρ.t 3) (by omega)
    obtain ⟨Z, hZ⟩ : ∃ Z : List Value, Z = (Builtin.zeroCells (Value.int .i64 0).cells (s.length + 1 - i)).toList ++ (Builtin.zeroCells (Value.int .i64 0).cells (grownCap w (s.length + 1) cap (ρ.t 3) - (s.length + 1))).toList := ⟨_, rfl⟩
    have hZl : Z.length = grownCap w (s.length + 1) cap (ρ.t 3) - i := by
     rw [hZ, List.length_append, hz, hz]
     omega
    have ec : ((rows encI p).toArray ++ Builtin.zeroCells (Value.int .i64 0).cells (s.length + 1 - i) ++ Builtin.zeroCells (Value.int .i64 0).cells (grownCap w (s.length + 1) cap (ρ.t 3) - (s.length + 1))) = (rows encI p ++ Z).toArray := by
     rw [hZ]; apply Array.toList_inj.1; simp
    rw [ec]
    have h1 := hst.alloc (.cells (rows encI p ++ Z).toArray (ρ.t 3) (0, 0))
    have h2 := St.setCells P h1.drew 0 (off := i) (vs := [.int .i64 x]) rfl h1v (by simp only [List.length_append, List.length_singleton]; omega) (.inl (Nat.le_refl _))
    have h3 := St.setCells P h2.drew 0 (off := i + 1) (vs := rows encI q) rfl rows_one (by simp only [List.length_append, List.length_take, List.length_drop, List.length_singleton]; omega) (.inl (Nat.le_refl _))
    have e9 := ins_new (P := rows encI p) (Q := rows encI q) (x := Value.int .i64 x) Z (by omega)
    rw [rp, hpl] at e9
    rw [show [Value.int .i64 x].length = 1 from rfl, e9] at h3
    refine fin _ w.heap.size _ 0 0 [] (rows encI p ++ [Value.int .i64 x] ++ rows encI q ++ Z.drop ((rows encI q).length + 1)) (h3.drop (List.Sublist.cons_cons _ (List.nil_sublist _))) ?_ hge hcm ?_ (.inl (Nat.le_refl _))
    ·simp only [List.length_append, List.length_singleton, List.length_drop]; omega
    ·rw [hrow]
     exact List.take_left' (by simp only [List.length_append, List.length_singleton]; omega)
end
def lays25_ren : Go.Shelf.Ren := ⟨fun | 25 => 155 | 31 => 211 | 32 => 212 | 37 => 250 | n => n, fun | 0 => 0 | 3 => 3 | 4 => 4 | 22 => 23 | 40 => 219 | n => n, fun n => n⟩
theorem lays25 : Go.Proofs.Lays2.n25 Tryz.prog lays25_ren := {
  mixed := by kernel_rfl
  f25 := Tryz.func155.trans (congrArg some (by kernel_rfl))
  f31 := Tryz.func211.trans (congrArg some (by kernel_rfl))
  f32 := Tryz.func212.trans (congrArg some (by kernel_rfl))
  f37 := Tryz.func250.trans (congrArg some (by kernel_rfl))
  t0 := Tryz.underlying0
  a0 := Tryz.isAgg0
  z0 := Tryz.sizeOf0
  v0 := Tryz.zeroValue0
  t3 := Tryz.underlying3
  a3 := Tryz.isAgg3
  z3 := Tryz.sizeOf3
  v3 := Tryz.zeroValue3
  t4 := Tryz.underlying4
  a4 := Tryz.isAgg4
  z4 := Tryz.sizeOf4
  v4 := Tryz.zeroValue4
  t22 := Tryz.underlying23
  a22 := Tryz.isAgg23
  z22 := Tryz.sizeOf23
  v22 := Tryz.zeroValue23
  t40 := Tryz.underlying219
  a40 := Tryz.isAgg219
  z40 := Tryz.sizeOf219
  v40 := Tryz.zeroValue219 }
def lays21_ren : Go.Shelf.Ren := ⟨fun | 21 => 156 | 27 => 213 | 28 => 214 | 35 => 251 | 39 => 261 | n => n, fun | 0 => 0 | 3 => 3 | 4 => 4 | 22 => 23 | n => n, fun n => n⟩
theorem lays21 : Go.Proofs.Lays2.n21 Tryz.prog lays21_ren := {
  mixed := by kernel_rfl
  f21 := Tryz.func156.trans (congrArg some (by kernel_rfl))
  f27 := Tryz.func213.trans (congrArg some (by kernel_rfl))
  f28 := Tryz.func214.trans (congrArg some (by kernel_rfl))
  f35 := Tryz.func251.trans (congrArg some (by kernel_rfl))
  f39 := Tryz.func261.trans (congrArg some (by kernel_rfl))
  t0 := Tryz.underlying0
  a0 := Tryz.isAgg0
  z0 := Tryz.sizeOf0
  v0 := Tryz.zeroValue0
  t3 := Tryz.underlying3
  a3 := Tryz.isAgg3
  z3 := Tryz.sizeOf3
  v3 := Tryz.zeroValue3
  t4 := Tryz.underlying4
  a4 := Tryz.isAgg4
  z4 := Tryz.sizeOf4
  v4 := Tryz.zeroValue4
  t22 := Tryz.underlying23
  a22 := Tryz.isAgg23
  z22 := Tryz.sizeOf23
  v22 := Tryz.zeroValue23
  i3 := by kernel_rfl }
theorem k64_ (A_s : Option Addr) (n_s c_s : Nat) (s : List Int) (x : Int) (w : World) (f_s : SlF encI w A_s n_s s) (hp : s.Pairwise (· ≤ ·)) (hn : n_s ≤ 1048576) :
    Calls Tryz.prog 155 #[.slice A_s n_s c_s, i64 x] w fun e w' => e = .returned (.tuple #[i64 (lowb s x), .bool (decide (x ∈ s))]) ∧ St w [] [] w' := by
 refine (search_rd lays25 f_s hp hn).mono ?_
 rintro e w' ⟨rfl, h1⟩
 refine ⟨?_, h1⟩
 rw [countP_lowb, List.contains_eq_mem]
theorem k65_ (v_s : Value) (s : List Int) (L_s : Hp) (i : Nat) (b_v : Nat) (x : Int) (w : World) (o_s : OwnF encI 3 v_s s L_s) (h_s : Hh w L_s) (hv : w.heap[b_v]? = some (.cells [Value.int .i64 x].toArray 3 (0, 0))) (hvn : b_v ∉ L_s.map (·.1)) (hi : i ≤ s.length) (hn : s.length ≤ 1048576) :
    Calls Tryz.prog 156 #[v_s, .int .i64 i, .slice (some ⟨b_v, 0, none⟩) 1 1] w fun e w' => ∃ A c L1, e = .returned (.slice A (s.length + 1) c) ∧ St w (L_s.map (·.1)) L1 w' ∧ OwnF encI 3 (.slice A (s.length + 1) c) (insL s i x) L1 := by
 exact (insert_own lays21 o_s h_s hi hn hv hvn).mono fun e w' h => h
theorem built_30 : Tryz.prog.built 30 [] = some (List.toArray [.int .i64 0, .int .i64 0, .bool false, .bool false, .bool false]) := by kernel_rfl
theorem k66_ (b_a : Nat) (a : AttrD) (n : Int) (w : World) (hb : w.heap[b_a]? = some (Obj.cells (List.toArray [i64 a.Fg, i64 a.Bg, .bool a.Bold, .bool a.Under, .bool a.Turn]) 30 (0, 0))) (hn : 0 ≤ n ∧ n ≤ 9999) :
    Calls Tryz.prog 255 #[.pointer (some ⟨b_a, 0, none⟩), i64 n] w fun e w' => e = .returned (.tuple #[]) ∧ St w [b_a] [(b_a, Obj.cells (List.toArray [i64 (sgrOne a n).Fg, i64 (sgrOne a n).Bg, .bool (sgrOne a n).Bold, .bool (sgrOne a n).Under, .bool (sgrOne a n).Turn]) 30 (0, 0))] w' := by
 refine enter 74 Tryz.func255 rfl Tryz.ntmps255 rfl rfl ?_
 have hs1 := St.take1 w b_a _ hb
 refine WC.block (WC.r1 hs1 [] rfl (WC.cq rfl (fun h2 qh2 => ?_) (fun h2 qh2 => ?_)))
 ·have e0 : n = 0 := by have h9 := h2; (try simp only [within_iff] at h9); first | exact h9 | (simp at h9; omega)
  refine WC.region (WL.r 1 hs1 [] rfl ?_)
  refine WL.val rfl rfl rfl (Run.build rfl rfl rfl rfl (built_30)) (WL.r 1 hs1 [] rfl (WL.st tbk hs1 0 rfl rfl (fun _ hs3 => WL.nil (ibN (retK0 rfl (⟨rfl, ?_⟩))))))
  unfold sgrOne
  rw [if_pos e0]
  exact hs3
 have e0 : ¬ (n = 0) := by have h9 := h2; (try simp only [within_not] at h9); first | exact h9 | (simp at h9; omega)
 refine WC.sr (WL.r 3 hs1 [] rfl (WL.pO tbk 2 Acts.nil hs1 [] rfl rfl rfl rfl (fun g_ => trivial) (WL.r 1 hs1 [] rfl (WL.nil (WC.cq rfl (fun h4 qh4 => ?_) (fun h4 qh4 => ?_))))))
 ·have e1 : n = 1 ∨ n = 22 := by have h9 := h4; (try simp only [within_iff] at h9); first | exact h9 | (simp at h9; omega)
  refine WC.region (WL.r 5 hs1 [] rfl (WL.st tbk hs1 0 rfl rfl (fun _ hs5 => WL.nil (ibN (retK0 rfl (⟨rfl, ?_⟩))))))
  unfold sgrOne
  rw [if_neg e0, if_pos e1]
  exact hs5
 have e1 : ¬ (n = 1 ∨ n = 22) := by have h9 := h4; (try simp only [within_not] at h9); first | exact h9 | (simp at h9; omega)
 refine WC.sr (WL.r 3 hs1 [] rfl (WL.pO tbk 2 Acts.nil hs1 [] rfl rfl rfl rfl (fun g_ => trivial) (WL.r 1 hs1 [] rfl (WL.nil (WC.cq rfl (fun h6 qh6 => ?_) (fun h6 qh6 => ?_))))))
 ·have e4 : n = 4 ∨ n = 24 := by have h9 := h6; (try simp only [within_iff] at h9); first | exact h9 | (simp at h9; omega)
  refine WC.region (WL.r 5 hs1 [] rfl (WL.st tbk hs1 0 rfl rfl (fun _ hs7 => WL.nil (ibN (retK0 rfl (⟨rfl, ?_⟩))))))
  unfold sgrOne
  rw [if_neg e0, if_neg e1, if_pos e4]
  exact hs7
 have e4 : ¬ (n = 4 ∨ n = 24) := by have h9 := h6; (try simp only [within_not] at h9); first | exact h9 | (simp at h9; omega)
 refine WC.sr (WL.r 3 hs1 [] rfl (WL.pO tbk 2 Acts.nil hs1 [] rfl rfl rfl rfl (fun g_ => trivial) (WL.r 1 hs1 [] rfl (WL.nil (WC.cq rfl (fun h8 qh8 => ?_) (fun h8 qh8 => ?_))))))
 ·have e7 : n = 7 ∨ n = 27 := by have h9 := h8; (try simp only [within_iff] at h9); first | exact h9 | (simp at h9; omega)
  refine WC.region (WL.r 5 hs1 [] rfl (WL.st tbk hs1 0 rfl rfl (fun _ hs9 => WL.nil (ibN (retK0 rfl (⟨rfl, ?_⟩))))))
  unfold sgrOne
  rw [if_neg e0, if_neg e1, if_neg e4, if_pos e7]
  exact hs9
 have e7 : ¬ (n = 7 ∨ n = 27) := by have h9 := h8; (try simp only [within_not] at h9); first | exact h9 | (simp at h9; omega)
 refine WC.sr (WL.r 1 hs1 [] rfl (WL.cl Tryz.call97 rfl (k0_ _ _ _ _) ?_))
 rintro _ whs10 ⟨rfl, hs10⟩
 replace hs10 := hs1.call0 hs10
 refine ⟨_, rfl, WL.r 1 hs10 [] rfl (WL.nil (WC.cq rfl (fun h11 qh11 => ?_) (fun h11 qh11 => ?_)))⟩
 ·have e30 : 30 ≤ n ∧ n ≤ 37 := by have h9 := h11; (try simp only [within_iff] at h9); first | exact h9 | (simp at h9; omega)
  refine WC.region (WL.r 5 hs10 [] rfl (WL.st tbk hs10 0 rfl rfl (fun _ hs12 => WL.nil (ibN (retK0 rfl (⟨rfl, ?_⟩))))))
  unfold sgrOne
  rw [if_neg e0, if_neg e1, if_neg e4, if_neg e7, if_pos e30]
  exact hs12
 have e30 : ¬ (30 ≤ n ∧ n ≤ 37) := by have h9 := h11; (try simp only [within_not] at h9); first | exact h9 | (simp at h9; omega)
 refine WC.r1 hs10 [] rfl (WC.cq rfl (fun h13 qh13 => ?_) (fun h13 qh13 => ?_))
 ·have e39 : n = 39 := by have h9 := h13; (try simp only [within_iff] at h9); first | exact h9 | (simp at h9; omega)
  refine WC.region (WL.r 3 hs10 [] rfl (WL.st tbk hs10 0 rfl rfl (fun _ hs14 => WL.nil (ibN (retK0 rfl (⟨rfl, ?_⟩))))))
  unfold sgrOne
  rw [if_neg e0, if_neg e1, if_neg e4, if_neg e7, if_neg e30, if_pos e39]
  exact hs14
 have e39 : ¬ (n = 39) := by have h9 := h13; (try simp only [within_not] at h9); first | exact h9 | (simp at h9; omega)
 refine WC.sr (WL.r 1 hs10 [] rfl (WL.cl Tryz.call97 rfl (k0_ _ _ _ _) ?_))
 rintro _ whs15 ⟨rfl, hs15⟩
 replace hs15 := hs10.call0 hs15
 refine ⟨_, rfl, WL.r 1 hs15 [] rfl (WL.nil (WC.cq rfl (fun h16 qh16 => ?_) (fun h16 qh16 => ?_)))⟩
 ·have e40 : 40 ≤ n ∧ n ≤ 47 := by have h9 := h16; (try simp only [within_iff] at h9); first | exact h9 | (simp at h9; omega)
  refine WC.region (WL.r 5 hs15 [] rfl (WL.st tbk hs15 0 rfl rfl (fun _ hs17 => WL.nil (ibN (retK0 rfl (⟨rfl, ?_⟩))))))
  unfold sgrOne
  rw [if_neg e0, if_neg e1, if_neg e4, if_neg e7, if_neg e30, if_neg e39, if_pos e40]
  exact hs17
 have e40 : ¬ (40 ≤ n ∧ n ≤ 47) := by have h9 := h16; (try simp only [within_not] at h9); first | exact h9 | (simp at h9; omega)
 refine WC.r1 hs15 [] rfl (WC.cq rfl (fun h18 qh18 => ?_) (fun h18 qh18 => ?_))
 ·have e49 : n = 49 := by have h9 := h18; (try simp only [within_iff] at h9); first | exact h9 | (simp at h9; omega)
  refine WC.region (WL.r 3 hs15 [] rfl (WL.st tbk hs15 0 rfl rfl (fun _ hs19 => WL.nil (ibN (retK0 rfl (⟨rfl, ?_⟩))))))
  unfold sgrOne
  rw [if_neg e0, if_neg e1, if_neg e4, if_neg e7, if_neg e30, if_neg e39, if_neg e40, if_pos e49]
  exact hs19
 have e49 : ¬ (n = 49) := by have h9 := h18; (try simp only [within_not] at h9); first | exact h9 | (simp at h9; omega)
 refine WC.skip (ibN (retK0 rfl (⟨rfl, ?_⟩)))
 unfold sgrOne
 rw [if_neg e0, if_neg e1, if_neg e4, if_neg e7, if_neg e30, if_neg e39, if_neg e40, if_neg e49]
 exact hs15
theorem k67_ (a_Fg : Int) (a_Bg : Int) (a_Bold : Bool) (a_Under : Bool) (a_Turn : Bool) (A_l : Option Addr) (n_l c_l : Nat) (l : List Int) (w : World) (f_l : SlF encI w A_l n_l l) (hl : areArgs l = true) (hn : n_l ≤ 549755813888) :
    Calls Tryz.prog 238 #[.agg #[i64 a_Fg, i64 a_Bg, .bool a_Bold, .bool a_Under, .bool a_Turn], .slice A_l n_l c_l] w fun e w' => ∃ r : AttrD, e = .returned (.agg #[i64 r.Fg, i64 r.Bg, .bool r.Bold, .bool r.Under, .bool r.Turn]) ∧ St w [] [] w' ∧ r = sgrRes (⟨a_Fg, a_Bg, a_Bold, a_Under, a_Turn⟩ : AttrD) l := by
 have hll := f_l.len
 refine enter 25 Tryz.func238 rfl Tryz.ntmps238 rfl rfl ?_
 have hs1 := St.init w
 refine WC.sr (WL.bx hs1 rfl (fun b2 _ hs3 => WL.al hs3 Tryz.zeroValue30 rfl rfl (fun b4 _ hs5 => WL.nil (WC.seq (fun K6 hK6 => WC.sr (WL.r 1 hs5 [1] rfl (WL.cl Tryz.call95 rfl (k3_ _ _ _ _ _ _) ?_)))))))
 rintro _ whs7 ⟨rfl, hs7⟩
 replace hs7 := hs5.call0 hs7
 refine ⟨_, rfl, WL.r 1 hs7 [] rfl (WL.nil (WC.cq rfl (fun h8 qh8 => ?_) (fun h8 qh8 => ?_)))⟩
 ·have hk : ¬ (attrOk a_Fg a_Bg = true ∧ 0 < l.length) := by rintro ⟨z7, z8⟩; have h9 := h8; first | (simp [z7] at h9; omega) | (simp [z7] at h9)
  refine WC.sr ?_
  refine WL.val rfl rfl rfl (Run.build rfl rfl rfl rfl (built_30)) (WL.st tbk hs7 0 rfl rfl (fun _ hs9 => WL.nil (WC.ret (tkR ?_))))
  clear hK6
  refine retV1 rfl (resV.cellA tbk hs9 0 rfl rfl rfl rfl) ?_
  exact ⟨⟨0, 0, false, false, false⟩, rfl, hs9.nil, by unfold sgrRes; rw [if_neg hk]⟩
 have hc0 := h8
 refine WC.skip (hK6 _ _ (WC.seq (fun K10 hK10 => WC.r1 hs7 [] rfl ?_)))
 refine WC.cq rfl (fun h11 qh11 => ?_) (fun h11 qh11 => ?_)
 ·have hk : ¬ (attrOk a_Fg a_Bg = true ∧ 0 < l.length) := by rintro ⟨z7, z8⟩; have h9 := h11; first | (simp [z7] at h9; omega) | (simp [z7] at h9)
  refine WC.sr ?_
  refine WL.val rfl rfl rfl (Run.build rfl rfl rfl rfl (built_30)) (WL.st tbk hs7 0 rfl rfl (fun _ hs12 => WL.nil (WC.ret (tkR ?_))))
  clear hK10
  refine retV1 rfl (resV.cellA tbk hs12 0 rfl rfl rfl rfl) ?_
  exact ⟨⟨0, 0, false, false, false⟩, rfl, hs12.nil, by unfold sgrRes; rw [if_neg hk]⟩
 have hc1 := h11
 have hk2 : attrOk a_Fg a_Bg = true ∧ 0 < l.length := by (try simp at hc0); (try simp at hc1); first | exact ⟨hc0, by omega⟩ | exact ⟨hc0.1, by omega⟩
 refine WC.skip (hK10 _ _ (WC.seq (fun K13 hK13 => WC.r1 hs7 [] rfl (WC.block ?_))))
 have hM14 := (St.grp0 [_] (hs7.fb b2))
 refine WC.lV [2, 4, 9, 13, 15, 16] rfl hM14 (fun k_ (a_ : Hp) f => ∃ (i : Nat) (q : AttrD), k_ = n_l - i ∧ a_ = [(b2, .cells (List.toArray [i64 q.Fg, i64 q.Bg, .bool q.Bold, .bool q.Under, .bool q.Turn]) 30 (0, 0))] ∧ (i ≤ n_l) ∧ (q = sgrAll (⟨a_Fg, a_Bg, a_Bold, a_Under, a_Turn⟩ : AttrD) (l.take i)) ∧ Sub [(17, .int .i64 i)] f) (((fun (i : Nat) (q : AttrD) => n_l - i) (0) ((⟨a_Fg, a_Bg, a_Bold, a_Under, a_Turn⟩ : AttrD)))) ?_ ?_
 ·refine ⟨0, (⟨a_Fg, a_Bg, a_Bold, a_Under, a_Turn⟩ : AttrD), rfl, rfl, ?_, ?_, ⟨rfl, trivial⟩⟩
  · exact Nat.zero_le _
  · rfl
 rintro _ _ f w ⟨i, q, rfl, rfl, p0, p1, hG⟩ hF hs15
 refine WC.sub _ (hG.app hF) ?_
 clear hG hF
 replace hs15 := St.ungrp0 [_] hs15
 have hs16 := ((hs15.fb b4).fb b2)
 refine WC.r1 hs16 [] rfl (WC.seq (fun K17 hK17 => ?_))
 refine WC.cq rfl (fun h18 qh18 => ?_) (fun h18 qh18 => ?_)
 ·have hnn := (areArgs_iff.1 hl).2 _ (gat_mem (F := encI) (show i < l.length by omega))
  refine WC.skip (hK17 _ _ (WC.seq (fun K19 hK19 => WC.block (WC.sr ?_))))
  refine WL.val rfl rfl rfl (Run.idxN Tryz.runUnderlying23 Tryz.sizeOf3 rfl rfl rfl ?_ ?_ ?_) ?_
  · exact SlF.some_ (SlF.st0 f_l hs16)
  · omega
  · omega
  refine WL.val rfl rfl rfl (Run.load Tryz.isAgg3 rfl rfl (SlF.one1 (SlF.st0 f_l hs16) ?_ rfl)) ?_
  · omega
  refine WL.r 1 hs16 [] rfl (WL.nil (WC.region (WL.r 1 hs16 [] rfl ?_)))
  have hF20 : St _ _ ([(b2, _)] ++ _) _ := hs16
  refine WL.call rfl rfl rfl (Run.call Tryz.call255 rfl rfl rfl) (k66_ _ q _ _ (hF20.own _ List.mem_cons_self).1 ?_) ?_
  · omega
  rintro _ whs21 ⟨rfl, hs21⟩
  replace hs21 := St.lend hF20 hs21
  refine ⟨_, rfl, WL.nil (hK19 _ _ (WC.region (WL.r 2 hs21 [] rfl (WL.nil (tkN ?_)))))⟩
  have hF22 := (St.grp0 [_] ((hs21.fb b4).fb b2))
  refine ⟨sbF rfl, _, hF22, _, ?_, i + 1, (sgrOne q (gat encI l i)), rfl, rfl, ?_, ?_, ⟨rfl, trivial⟩⟩
  · omega
  · omega
  · rw [sgrAll_take (by omega), ← p1]
 refine WC.exit (hK13 _ _ (WC.sr (WL.r 1 hs16 [0] rfl (WL.st tbk hs16 1 rfl rfl (fun _ hs23 => WL.nil (WC.ret (retV1 rfl (resV.cellA tbk hs23 1 rfl rfl rfl rfl) ?_)))))))
 exact ⟨q, rfl, hs23.nil, by unfold sgrRes; rw [if_pos hk2, p1, List.take_of_length_le (by omega)]⟩
theorem k68_ (g : GridR) (x : Int) (y : Int) (w_ : Int) (h_ : Int) (c_R : Int) (c_A_Fg : Int) (c_A_Bg : Int) (c_A_Bold : Bool) (c_A_Under : Bool) (c_A_Turn : Bool) (w : World) (f_g : okGridR 549755813888 w g) (hg : gridOk g.dat = true) (hc : cellOk (⟨c_R, ⟨c_A_Fg, c_A_Bg, c_A_Bold, c_A_Under, c_A_Turn⟩⟩ : CellD) = true) (hx : -100000 ≤ x ∧ x ≤ 100000) (hy : -100000 ≤ y ∧ y ≤ 100000) (hw : -100000 ≤ w_ ∧ w_ ≤ 100000) (hh : -100000 ≤ h_ ∧ h_ ≤ 100000) :
    Calls Tryz.prog 179 #[.agg #[i64 g.W, i64 g.H, .slice g.Cells.A g.Cells.n g.Cells.c], i64 x, i64 y, i64 w_, i64 h_, .agg #[i64 c_R, i64 c_A_Fg, i64 c_A_Bg, .bool c_A_Bold, .bool c_A_Under, .bool c_A_Turn]] w fun e w' => ∃ r L1, e = .returned (.agg #[i64 r.W, i64 r.H, .slice r.Cells.A r.Cells.n r.Cells.c]) ∧ St w [] L1 w' ∧ ownGridR r L1 ∧ r.dat = gFill g.dat x y w_ h_ (⟨c_R, ⟨c_A_Fg, c_A_Bg, c_A_Bold, c_A_Under, c_A_Turn⟩⟩ : CellD) := by
 have nb_g_Cells := f_g.Cells_n
 have nl_g_Cells := f_g.Cells.len
 have hgb : (1 ≤ g.W ∧ g.W ≤ 120) ∧ (1 ≤ g.H ∧ g.H ≤ 120) ∧ 1 ≤ g.W * g.H ∧ g.W * g.H ≤ 4000 := gridOk_bnd hg
 have hgl : (g.Cells.xs.length : Int) = g.W * g.H := grid_len hg
 have hsmg : smGrid 1048576 g.dat := by show g.Cells.xs.length ≤ 1048576; omega
 have hng := f_g.Cells.len
 refine enter 91 Tryz.func179 rfl Tryz.ntmps179 rfl rfl ?_
 have hs1 := St.init w
 refine WC.sr (WL.bx hs1 rfl (fun b2 _ hs3 => WL.bx hs3 rfl (fun b4 _ hs5 => WL.al hs5 Tryz.zeroValue28 rfl rfl (fun b6 _ hs7 => WL.nil (WC.seq (fun K8 hK8 => WC.sr (WL.r 1 hs7 [2] rfl ?_)))))))
 refine WL.cl Tryz.call138 rfl (k34_ g _ (okGridR.st0 f_g hs7)) ?_
 rintro _ whs9 ⟨rfl, hs9⟩
 replace hs9 := hs7.call0 hs9
 refine ⟨_, rfl, WL.r 2 hs9 [] rfl ?_⟩
 apply WL.gO 3 Acts.nil hs9 rfl
 ·intro g10 J11
  have qg10 := g10
  try simp only [bf, within_iff, within_not] at qg10
  refine WL.runA tbk 1 (Acts.nil.cons (j := 3) rfl g10) hs9 [1] rfl ⟨rfl, trivial⟩ (WL.call (wantF rfl g10) rfl rfl (Run.call Tryz.call203 rfl rfl rfl) (k6_ _ _ _ _ _ _ _) ?_)
  rintro _ whs12 ⟨rfl, hs12⟩
  replace hs12 := hs9.call0 hs12
  refine ⟨_, rfl, WL.runA tbk 1 (Acts.nil.cons (j := 3) rfl g10) hs12 [] rfl trivial (WL.eO 3 Acts.nil J11 hs12 g10 rfl rfl)⟩
 intro _ hs13
 refine WL.r 1 hs13 [] rfl ?_
 apply WL.gO 3 Acts.nil hs13 rfl
 ·intro g14 J15
  have qg14 := g14
  try simp only [bf, within_iff, within_not] at qg14
  refine WL.runA tbk 1 (Acts.nil.cons (j := 8) rfl g14) hs13 [] rfl trivial (WL.call (wantF rfl g14) rfl rfl (Run.call Tryz.call230 rfl rfl rfl) (k42_ _ _) ?_)
  rintro _ whs16 ⟨rfl, hs16⟩
  replace hs16 := hs13.call0 hs16
  refine ⟨_, rfl, WL.runA tbk 1 (Acts.nil.cons (j := 8) rfl g14) hs16 [] rfl trivial (WL.eO 3 Acts.nil J15 hs16 g14 rfl rfl)⟩
 intro _ hs17
 refine WL.r 1 hs17 [] rfl ?_
 apply WL.gO 3 Acts.nil hs17 rfl
 ·intro g18 J19
  have qg18 := g18
  try simp only [bf, within_iff, within_not] at qg18
  refine WL.runA tbk 1 (Acts.nil.cons (j := 13) rfl g18) hs17 [] rfl trivial (WL.call (wantF rfl g18) rfl rfl (Run.call Tryz.call230 rfl rfl rfl) (k42_ _ _) ?_)
  rintro _ whs20 ⟨rfl, hs20⟩
  replace hs20 := hs17.call0 hs20
  refine ⟨_, rfl, WL.runA tbk 1 (Acts.nil.cons (j := 13) rfl g18) hs20 [] rfl trivial (WL.eO 3 Acts.nil J19 hs20 g18 rfl rfl)⟩
 intro _ hs21
 refine WL.r 1 hs21 [] rfl ?_
 apply WL.gO 3 Acts.nil hs21 rfl
 ·intro g22 J23
  have qg22 := g22
  try simp only [bf, within_iff, within_not] at qg22
  refine WL.runA tbk 1 (Acts.nil.cons (j := 18) rfl g22) hs21 [] rfl trivial (WL.call (wantF rfl g22) rfl rfl (Run.call Tryz.call230 rfl rfl rfl) (k42_ _ _) ?_)
  rintro _ whs24 ⟨rfl, hs24⟩
  replace hs24 := hs21.call0 hs24
  refine ⟨_, rfl, WL.runA tbk 1 (Acts.nil.cons (j := 18) rfl g22) hs24 [] rfl trivial (WL.eO 3 Acts.nil J23 hs24 g22 rfl rfl)⟩
 intro _ hs25
 refine WL.r 1 hs25 [] rfl ?_
 apply WL.gO 3 Acts.nil hs25 rfl
 ·intro g26 J27
  have qg26 := g26
  try simp only [bf, within_iff, within_not] at qg26
  refine WL.runA tbk 1 (Acts.nil.cons (j := 23) rfl g26) hs25 [] rfl trivial (WL.call (wantF rfl g26) rfl rfl (Run.call Tryz.call230 rfl rfl rfl) (k42_ _ _) ?_)
  rintro _ whs28 ⟨rfl, hs28⟩
  replace hs28 := hs25.call0 hs28
  refine ⟨_, rfl, WL.runA tbk 1 (Acts.nil.cons (j := 23) rfl g26) hs28 [] rfl trivial (WL.eO 3 Acts.nil J27 hs28 g26 rfl rfl)⟩
 intro _ hs29
 refine WL.nil (WC.cq rfl (fun h30 qh30 => ?_) (fun h30 qh30 => ?_))
 ·exfalso; have h9 := h30; simp [hg, hc, within] at h9; omega
 refine WC.skip (hK8 _ _ (WC.sr (WL.r 1 hs29 [2] rfl ?_)))
 refine WL.cl Tryz.call141 rfl (k22_ g _ (okGridR.st0 f_g hs29) ?_) ?_
 · first | assumption | rfl | omega | (exact Nat.le_trans hsmg (by decide))
 rintro _ whs31 ⟨r32, L1_33, rfl, hs31, ho34, hd35⟩
 replace hs31 := hs29.callF hs31
 refine ⟨_, rfl, ?_⟩
 replace hs31 := St.back [_, _, _] hs31
 have hd0 := hd35
 have hn0 := ownGridR.len ‹ownGridR r32 _›
 have hl0 : r32.Cells.xs.length = g.Cells.xs.length := congrArg (fun d : GridD => d.Cells.length) hd0
 refine WL.al hs31 Tryz.zeroValue28 rfl rfl (fun b36 _ hs37 => WL.st tbk hs37 0 rfl rfl (fun _ hs38 => WL.nil (WC.seq (fun K39 hK39 => WC.r1 hs38 [0] rfl (WC.block ?_)))))
 have hM44 := (St.grp1 (L1 := L1_33) [_] (((((hs38.fb b2).fb b4).fb b6).fr L1_33).fb b36))
 refine WC.lV [1, 2, 3, 4, 6, 11, 12, 13, 44, 50] rfl hM44 (fun k_ (a_ : Hp) f => ∃ (i : Nat) (r : GridR) (L42 : Hp), k_ = g.Cells.n - i ∧ a_ = [(b36, .cells (List.toArray [i64 r.W, i64 r.H, .slice r.Cells.A r.Cells.n r.Cells.c]) 28 (0, 0))] ++ L42 ∧ (i ≤ g.Cells.n) ∧ (r.W = g.W ∧ r.H = g.H ∧ r.Cells.xs.length = g.Cells.xs.length) ∧ (∀ k, k < g.Cells.xs.length → cat r.Cells.xs k = partF g.dat (fillFn g.dat x y w_ h_ (⟨c_R, ⟨c_A_Fg, c_A_Bg, c_A_Bold, c_A_Under, c_A_Turn⟩⟩ : CellD)) 0 i k) ∧ ownGridR r L42 ∧ Sub [(51, .int .i64 i)] f) (((fun (i : Nat) => g.Cells.n - i) (0))) ?_ ?_
 ·refine ⟨0, r32, L1_33, rfl, rfl, ?_, ?_, ?_, ho34, ⟨rfl, trivial⟩⟩
  · omega
  · exact ⟨congrArg GridD.W hd0, congrArg GridD.H hd0, congrArg (fun d : GridD => d.Cells.length) hd0⟩
  · intro k hk; rw [partF_zero]; exact congrArg (fun d : GridD => cat d.Cells k) hd0
 rintro _ _ f w ⟨i, r, L42, rfl, rfl, p0, p1, p2, ho43, hG⟩ hF hs45
 refine WC.sub _ (hG.app hF) ?_
 clear hG hF
 replace hs45 := St.ungrp1 [_] hs45
 have hs46 := ((((hs45.fb b2).fb b4).fb b6).fb b36)
 have hsmr : smGrid 549755813888 r.dat := by show r.Cells.xs.length ≤ 549755813888; omega
 have hnr := ownGridR.len ‹ownGridR r _›
 refine WC.r1 hs46 [] rfl (WC.seq (fun K47 hK47 => ?_))
 refine WC.cq rfl (fun h48 qh48 => ?_) (fun h48 qh48 => ?_)
 ·obtain ⟨q, m, hkd, hkm, hiq, hmw, hqh⟩ := divmod_ex (i := i) (w := g.W) (h := g.H) (by omega) (by omega) (by omega)
  obtain ⟨hdq, hmq⟩ := at_div (w := g.W.toNat) (y := q) (x := m) (by omega)
  rw [← hiq] at hdq hmq
  refine WC.skip (hK47 _ _ (WC.seq (fun K49 hK49 => WC.block (WC.r1 hs46 [] rfl (WC.sr (WL.r 3 hs46 [3] rfl ?_))))))
  refine WL.val rfl rfl rfl (Run.rem rfl rfl rfl ?_ ?_) ?_
  · omega
  · omega
  refine WL.r 1 hs46 [] rfl (WL.nil (WC.sr (WL.r 3 hs46 [3] rfl (WL.val rfl rfl rfl (Run.quo rfl rfl rfl ?_ ?_ ?_) ?_))))
  · omega
  · omega
  · omega
  refine WL.r 1 hs46 [] rfl (WL.nil (WC.sr (WL.r 4 hs46 [] rfl ?_)))
  refine WL.pA tbk 5 Acts.nil hs46 [] rfl rfl rfl rfl (fun g_ => by (try simp only [bf, within_iff, within_not] at g_); exact ⟨by omega, trivial⟩) (WL.r 1 hs46 [] rfl (WL.pA tbk 3 Acts.nil hs46 [] rfl rfl rfl rfl (fun g_ => trivial) (WL.r 1 hs46 [] rfl ?_)))
  refine WL.pA tbk 5 Acts.nil hs46 [] rfl rfl rfl rfl (fun g_ => by (try simp only [bf, within_iff, within_not] at g_); exact ⟨by omega, trivial⟩) (WL.nil (WC.cq rfl (fun h50 qh50 => ?_) (fun h50 qh50 => ?_)))
  ·have hin : ((x ≤ (m : Int) ∧ (m : Int) < x + w_) ∧ y ≤ (q : Int) ∧ (q : Int) < y + h_) := by have h9 := h50; simp [hkm, hkd] at h9; omega
   refine WC.region (WL.r 4 hs46 [0, 2] rfl (WL.val rfl rfl rfl (Run.idxN Tryz.runUnderlying26 Tryz.sizeOf75 rfl rfl rfl ?_ ?_ ?_) ?_))
   · exact SlF.some_ (ownGridR.ok (B := 549755813888) ho43 (hs46.ow L42) hsmr).Cells
   · first | omega | (rw [hkd, hkm]; omega)
   · first | omega | (rw [hkd, hkm]; omega)
   refine WL.storeF1 (x' := (⟨c_R, ⟨c_A_Fg, c_A_Bg, c_A_Bold, c_A_Under, c_A_Turn⟩⟩ : CellD)) (hs46.fr L42) ho43 Tryz.sizeOf75 rfl rfl rfl rfl rfl rfl rfl rfl rfl ?_ rfl (fun L51 whs52 hs52 ho53 _ => ?_)
   · first | omega | (rw [hkd, hkm]; omega)
   replace hs52 := St.back [_, _, _, _] hs52
   refine WL.nil (hK49 _ _ (WC.region (WL.r 2 hs52 [] rfl (WL.nil (tkN ?_)))))
   have hF54 := (St.grp1 (L1 := L51) [_] (((((hs52.fb b2).fb b4).fb b6).fr L51).fb b36))
   refine ⟨sbF rfl, _, hF54, _, ?_, i + 1, ⟨r.W, r.H, SlD.of ho53⟩, L51, rfl, rfl, ?_, ?_, ?_, ho53, ⟨rfl, trivial⟩⟩
   · omega
   · omega
   · first | exact p1 | exact ⟨p1.1, p1.2.1, by simp only [List.length_set]; exact p1.2.2⟩
   · intro k hk; show cat _ k = _; first | exact part_next (g := g.dat) (by omega) (by rw [p1.2.2]; omega) (by rw [Nat.zero_add]; symm; unfold fillFn; rw [show i / g.dat.W.toNat = q from hdq, show i % g.dat.W.toNat = m from hmq,  if_pos hin]) (p2 k hk) | exact part_skip (g := g.dat) (by unfold fillFn; rw [show i / g.dat.W.toNat = q from hdq, show i % g.dat.W.toNat = m from hmq,  if_neg hout]) (p2 k hk)
  have hout : ¬ ((x ≤ (m : Int) ∧ (m : Int) < x + w_) ∧ y ≤ (q : Int) ∧ (q : Int) < y + h_) := by have h9 := h50; simp [hkm, hkd] at h9; omega
  refine WC.skip (hK49 _ _ (WC.region (WL.r 2 hs46 [] rfl (WL.nil (tkN ?_)))))
  have hF55 := (St.grp1 (L1 := L42) [_] (((((hs46.fb b2).fb b4).fb b6).fr L42).fb b36))
  refine ⟨sbF rfl, _, hF55, _, ?_, i + 1, r, L42, rfl, rfl, ?_, ?_, ?_, ho43, ⟨rfl, trivial⟩⟩
  · omega
  · omega
  · first | exact p1 | exact ⟨p1.1, p1.2.1, by simp only [List.length_set]; exact p1.2.2⟩
  · intro k hk; show cat _ k = _; first | exact part_next (g := g.dat) (by omega) (by rw [p1.2.2]; omega) (by rw [Nat.zero_add]; symm; unfold fillFn; rw [show i / g.dat.W.toNat = q from hdq, show i % g.dat.W.toNat = m from hmq,  if_pos hin]) (p2 k hk) | exact part_skip (g := g.dat) (by unfold fillFn; rw [show i / g.dat.W.toNat = q from hdq, show i % g.dat.W.toNat = m from hmq,  if_neg hout]) (p2 k hk)
 refine WC.exit (hK39 _ _ (WC.sr (WL.r 1 hs46 [0] rfl (WL.st tbk hs46 1 rfl rfl (fun _ hs56 => WL.nil (WC.ret (retV1 rfl (resV.cellA tbk hs56 1 rfl rfl rfl rfl) ?_)))))))
 refine ⟨r, _, rfl, (St.keep1 (hs56.fr L42)), ?_, ?_⟩
 · exact ho43
 · exact part_done (g := g.dat) (lo := 0) (a := i) p1.1 p1.2.1 p1.2.2 (fun k hk h9 => absurd (show 0 ≤ k ∧ k < 0 + i by have h7 : k < g.Cells.xs.length := hk; omega) h9) p2
theorem nthL_eq : ∀ (L : Hp) (i : Nat), nthL L i = L[i]?
 | [], _ => rfl
 | _ :: _, 0 => rfl
 | _ :: L, i + 1 => (nthL_eq L i).trans (by simp)
section
variable {P : Program} {w0 w : World} {T : List Nat} {L : Hp} {n : Nat} {ol : List Oper} {o : Oper} {rest : List Oper} {f : Fr} {d : Nat} {K : Fr → World → Prop}
theorem St.setObj (h : St w0 T L w) {i b : Nat} {o1 : Obj} (hi : nthL L i = some (b, o1)) (o2 : Obj) : St w0 T (setL L i o2) { w with heap := w.heap.setIfInBounds b o2 } := by
 have hb := (h.own _ (nthL_mem hi))
 have hlt := lt_of_heap hb.1
 have hother : ∀ k, k ≠ b → (w.heap.setIfInBounds b o2)[k]? = w.heap[k]? := fun k hk => by
  rw [Array.getElem?_setIfInBounds]; rw [if_neg (fun h => hk h.symm)]
 refine ⟨h.os, h.tape, h.output, by simpa using h.size, fun k hk hT => ?_, fun p hp => ?_, by rw [setL_keys]; exact h.nodup⟩
 ·refine (hother k ?_).trans (h.keep k hk hT)
  rintro rfl
  rcases hb.2 with h1 | h1
  ·simp at h1; omega
  ·exact hT h1
 ·rcases setL_mem hi h.nodup hp with rfl | ⟨hm, hne⟩
  ·refine ⟨?_, hb.2⟩
   show (w.heap.setIfInBounds b o2)[b]? = some o2
   rw [Array.getElem?_setIfInBounds, if_pos rfl]
   simp only at hlt
   rw [if_pos hlt]
  ·exact ⟨(hother p.1 hne).trans (h.own p hm).1, (h.own p hm).2⟩
theorem WL.makeMap {t : TypeId} (hst : St w0 T L w) (ho : o.op = .makeMap t none) (hw : want ol o f = some true) (hd : o.dst = some d) (hn : Nat.blt d n = true)
  (k : ∀ b w', St w0 T ((b, .map #[] 0) :: L) w' → WL P n ol rest K ((d, .map (some b)) :: f) w') : WL P n ol (o :: rest) K f w := by
 refine WL.val (w' := w.alloc (.map #[] 0)) hw hd hn (fun ρ hρ => ?_) (k _ _ (hst.alloc _))
 simp [execOp, ho, Instr.makeMap]
theorem WL.mapPut {L' : Hp} {t kt et : TypeId} {kd : TypeDesc} {x y z : Operand} {b clock : Nat} {es : Array MapEntry} {key v : Value} (hst : St w0 T L w) (i : Nat) (hi : nthL L i = some (b, .map es clock)) (hm : P.underlying t = some (.map kt et)) (hkd : P.underlying kt = some kd)
  (ho : o.op = .insert t x y z) (hw : want ol o f = some true) (hd : o.dst = none) (hx : ev f x = some (.map (some b))) (hy : ev f y = some key) (hz : ev f z = some v) (hL : setLK L i (.map (es.push { key := key, val := v, born := clock }) (clock + 1)) some = some L') (hk : MapKept.IsKey kd key) (hf : Instr.findNow kd key es.toList 0 = some none)
  (k : ∀ w', St w0 T L' w' → WL P n ol rest K f w') : WL P n ol (o :: rest) K f w := by
 have hb := (hst.own _ (nthL_mem hi)).1
 refine WL.unit (w' := { w with heap := w.heap.setIfInBounds b (.map (es.push { key := key, val := v, born := clock }) (clock + 1)) }) hw hd (fun ρ hρ => ?_) (k _ (Option.some.inj (setLK_some hL) ▸ hst.setObj hi _))
 simp [execOp, ho, hρ _ _ hx, hρ _ _ hy, hρ _ _ hz, Instr.mapUpdate, run_underlying hm, MapKept.run_getObj_map hb, MapKept.run_checkKey hkd hk, MapKept.run_findKey hkd hf, MapKept.run_setObj_map _ hb, Result.andThen]
theorem Run.mapGet {t kt et : TypeId} {kd : TypeDesc} {x y : Operand} {b clock : Nat} {es : Array MapEntry} {key v : Value} (hm : P.underlying t = some (.map kt et)) (hkd : P.underlying kt = some kd) (ho : o.op = .lookup t x y false) (hx : ev f x = some (.map (some b))) (hy : ev f y = some key)
  (hb : w.heap[b]? = some (.map es clock)) (hk : MapKept.IsKey kd key) (hf : ∃ j, Instr.findNow kd key es.toList 0 = some (some (j, v))) : Run P o f w (.value v) w := fun ρ hρ => by
 obtain ⟨j, hf⟩ := hf
 simp [execOp, ho, hρ _ _ hx, hρ _ _ hy, Instr.lookup, run_underlying hm, MapKept.run_getObj_map hb, MapKept.run_checkKey hkd hk, MapKept.run_findKey hkd hf, Result.andThen]
theorem St.neq (h : St w0 T L w) {i j : Nat} {p q : Nat × Obj} (hi : nthL L i = some p) (hj : nthL L j = some q) (hij : i ≠ j) : p.1 ≠ q.1 := by
 intro he
 rw [nthL_eq] at hi hj
 have h1 : (L.map (·.1))[i]? = some p.1 := by rw [List.getElem?_map, hi]; rfl
 have h2 : (L.map (·.1))[j]? = some q.1 := by rw [List.getElem?_map, hj]; rfl
 exact hij ((List.getElem?_inj (List.getElem?_eq_some_iff.1 h1).1 h.nodup).1 (h1.trans (he ▸ h2.symm)))
theorem St.untouch {w' : World} (h : St w T L w') (hT : ∀ k, k ∈ T → ∃ q, (k, q) ∈ L) (hL : ∀ p, p ∈ L → w.heap[p.1]? = some p.2) : St w [] [] w' := by
 refine ⟨h.os, h.tape, h.output, h.size, fun k hk _ => ?_, fun _ hp => (by cases hp), List.nodup_nil⟩
 by_cases hm : k ∈ T
 ·obtain ⟨q, hq⟩ := hT k hm
  exact (h.own _ hq).1.trans (hL _ hq).symm
 ·exact h.keep k hk hm
end
theorem k69_ (A_s : Option Addr) (n_s c_s : Nat) (s : List Int) (p : Int → Bool) (cv : Value) (w : World) (f_s : SlF encI w A_s n_s s) (hcl : ∀ w1 : World, St w [] [] w1 → ∀ m : Int, Calls Tryz.prog 241 #[i64 m, cv] w1 fun e w2 => e = .returned (.bool (p m)) ∧ St w1 [] [] w2) (hn : n_s ≤ 1048576) :
    Calls Tryz.prog 226 #[.slice A_s n_s c_s, .func (.func 241) #[] #[cv]] w fun e w' => e = .returned (i64 (findI p s)) ∧ St w [] [] w' := by
 refine enter 19 Tryz.func226 rfl Tryz.ntmps226 rfl rfl ?_
 have hs1 := St.init w
 refine WC.r1 hs1 [] rfl (WC.seq (fun K2 hK2 => WC.r1 hs1 [] rfl (WC.block ?_)))
 refine WC.lS [0, 1, 7] rfl hs1 (fun k_ f w' => ∃ (i : Nat), k_ = n_s - i ∧ (i ≤ n_s) ∧ (∀ j, j < i → p (iat s j) = false) ∧ Sub [(8, .int .i64 i)] f) ((fun (i : Nat) => n_s - i) (0)) ?_ ?_
 ·refine ⟨0, rfl, ?_, ?_, ⟨rfl, trivial⟩⟩
  · exact Nat.zero_le _
  · exact fun j hj => absurd hj (by omega)
 clear hs1
 rintro _ f w ⟨i, rfl, p0, p1, hG⟩ hF hs3
 refine WC.sub _ (hG.app hF) ?_
 clear hG hF
 refine WC.r1 hs3 [] rfl (WC.seq (fun K4 hK4 => ?_))
 refine WC.cond rfl (fun h5 => ?_) (fun h5 => ?_)
 ·have qh5 := h5
  try simp only [decide_eq_true_eq, decide_eq_false_iff_not] at qh5
  refine WC.skip (hK4 _ _ (WC.seq (fun K6 hK6 => WC.block (WC.r1 hs3 [] rfl (WC.sr (WL.r 3 hs3 [] rfl ?_))))))
  refine WL.val rfl rfl rfl (Run.idxN Tryz.runUnderlying23 Tryz.sizeOf3 rfl rfl rfl ?_ ?_ ?_) ?_
  · exact SlF.some_ (SlF.st0 f_s hs3)
  · omega
  · omega
  refine WL.val rfl rfl rfl (Run.load Tryz.isAgg3 rfl rfl (SlF.one1 (SlF.st0 f_s hs3) ?_ rfl)) ?_
  · omega
  refine WL.call rfl rfl rfl (Run.callC Tryz.call241 rfl rfl rfl) (hcl _ hs3 _) ?_
  rintro _ whs7 ⟨rfl, hs7⟩
  replace hs7 := hs3.call0 hs7
  refine ⟨_, rfl, WL.nil (WC.cond rfl (fun h8 => ?_) (fun h8 => ?_))⟩
  ·have qh8 := h8
   try simp only [decide_eq_true_eq, decide_eq_false_iff_not] at qh8
   refine WC.r1 hs7 [] rfl (WC.ret (ibR (tkR (tkR (ibR (tkR ?_))))))
   clear hK6 hK2
   refine rtv rfl rfl hs7 ?_
   rw [findI_some (F := encI) (by rw [f_s.len]; omega) p1 h8]
  have qh8 := h8
  try simp only [decide_eq_true_eq, decide_eq_false_iff_not] at qh8
  refine WC.skip (hK6 _ _ (WC.region (WL.r 2 hs7 [] rfl (WL.nil (tkN ?_)))))
  refine ⟨sbF rfl, hs7, _, ?_, i + 1, rfl, ?_, ?_, ⟨rfl, trivial⟩⟩
  · omega
  · omega
  · intro j hj; rcases Nat.lt_or_ge j i with h_ | h_
    · exact p1 j h_
    · obtain rfl : j = i := by omega
      exact h8
 have qh5 := h5
 try simp only [decide_eq_true_eq, decide_eq_false_iff_not] at qh5
 refine WC.exit (hK2 _ _ (WC.r1 hs3 [] rfl (WC.ret (rtv rfl rfl hs3 ?_))))
 rw [findI_none (F := encI) (fun j hj => p1 j (by rw [f_s.len] at hj; omega))]
theorem k70_ (v_s : Value) (s : List Int) (L_s : Hp) (p : Int → Bool) (cv : Value) (w : World) (o_s : OwnF encI 3 v_s s L_s) (h_s : Hh w L_s) (hcl : ∀ (w1 : World) (Lx : Hp), St w (L_s.map (·.1)) Lx w1 → ∀ m : Int, Calls Tryz.prog 241 #[i64 m, cv] w1 fun e w2 => e = .returned (.bool (p m)) ∧ St w1 [] [] w2) (hn : s.length ≤ 1048576) :
    Calls Tryz.prog 240 #[v_s, .func (.func 241) #[] #[cv]] w fun e w' => ∃ A c n xs L1, e = .returned (.slice A n c) ∧ St w (L_s.map (·.1)) L1 w' ∧ OwnF encI 3 (.slice A n c) xs L1 ∧ xs = s.filter (fun x => !p x) := by
 obtain ⟨A_s, c_s, rfl⟩ := o_s.shape
 refine enter 42 Tryz.func240 rfl Tryz.ntmps240 rfl rfl ?_
 have hs1 := St.lent1 w L_s o_s h_s
 refine WC.r1 hs1 [] rfl (WC.sr (WL.r 2 hs1 [] rfl ?_))
 refine WL.cl Tryz.call226 rfl (k69_ _ _ _ _ _ _ _ (SlF.ofOwn o_s (hs1.ow L_s)) (fun w_ hx_ => hcl _ _ (St.call0 hs1 hx_)) ?_) ?_
 · first | assumption | rfl | omega
 rintro _ whs2 ⟨rfl, hs2⟩
 replace hs2 := hs1.call0 hs2
 refine ⟨_, rfl, WL.r 1 hs2 [] rfl (WL.nil (WC.seq (fun K3 hK3 => WC.r1 hs2 [] rfl ?_)))⟩
 refine WC.cq rfl (fun h4 qh4 => ?_) (fun h4 qh4 => ?_)
 ·have hfi : findI p s = -1 := by have h9 := h4; simpa using h9
  refine WC.r1 hs2 [] rfl (WC.ret (tkR ?_))
  clear hK3
  refine retV1 rfl (resV.tmp rfl) (⟨_, _, _, _, _, rfl, (St.keep1 hs2), o_s, (del_none hfi).symm⟩)
 have hfi : ¬ findI p s = -1 := by have h9 := h4; simpa using h9
 obtain ⟨hf0, hf1⟩ := findI_bnd hfi
 refine WC.skip (hK3 _ _ (WC.seq (fun K5 hK5 => WC.r1 hs2 [] rfl (WC.block ?_))))
 refine WC.lO [1, 4, 12] rfl hs2 (fun k_ f L_ => ∃ (j m : Nat) (zs : List Int), k_ = s.length - j ∧ (j ≤ s.length) ∧ (m < j) ∧ (DelTo p s j m zs) ∧ OwnF encI 3 (.slice A_s (s.length) c_s) (zs) L_ ∧ Sub [(0, .slice A_s (s.length) c_s), (6, .int .i64 j), (5, .int .i64 m)] f) (((fun (j m : Nat) (zs : List Int) => s.length - j) ((findI p s).toNat + 1) ((findI p s).toNat) (s))) ?_ ?_
 ·refine ⟨(findI p s).toNat + 1, (findI p s).toNat, s, rfl, ?_, ?_, ?_, o_s, ⟨rfl, ?_, ?_, trivial⟩⟩
  · omega
  · omega
  · exact delTo_start hfi
  · (refine congrArg some (congrArg (Value.int _) ?_); omega)
  · (refine congrArg some (congrArg (Value.int _) ?_); omega)
 clear hs2
 rintro _ f w L8 ⟨j, m, zs, rfl, p0, p1, p2, ho9, hG⟩ hF hs10
 refine WC.sub _ (hG.app hF) ?_
 clear hG hF
 have hzl := p2.len
 refine WC.seq (fun K11 hK11 => WC.r1 hs10 [] rfl ?_)
 refine WC.cq rfl (fun h12 qh12 => ?_) (fun h12 qh12 => ?_)
 ·refine WC.skip (hK11 _ _ (WC.seq (fun K13 hK13 => WC.block (WC.sr (WL.r 2 hs10 [] rfl ?_)))))
  refine WL.val rfl rfl rfl (Run.idxN Tryz.runUnderlying23 Tryz.sizeOf3 rfl rfl rfl ?_ ?_ ?_) ?_
  · exact SlF.some_ (SlF.ofOwn ho9 (hs10.ow L8))
  · first | omega | (simp only [List.length_set]; omega)
  · first | omega | (simp only [List.length_set]; omega)
  refine WL.val rfl rfl rfl (Run.load Tryz.isAgg3 rfl rfl (SlF.one1 (SlF.ofOwn ho9 (hs10.ow L8)) ?_ rfl)) ?_
  · first | omega | (simp only [List.length_set]; omega)
  refine WL.r 1 hs10 [] rfl (WL.nil (WC.sr (WL.r 2 hs10 [] rfl (WL.call rfl rfl rfl (Run.callC Tryz.call241 rfl rfl rfl) (hcl _ _ hs10 _) ?_))))
  rintro _ whs14 ⟨rfl, hs14⟩
  replace hs14 := hs10.call0 hs14
  refine ⟨_, rfl, WL.r 1 hs14 [] rfl (WL.nil (WC.cq rfl (fun h15 qh15 => ?_) (fun h15 qh15 => ?_)))⟩
  ·refine WC.sr (WL.r 3 hs14 [] rfl (WL.val rfl rfl rfl (Run.idxN Tryz.runUnderlying23 Tryz.sizeOf3 rfl rfl rfl ?_ ?_ ?_) ?_))
   · exact SlF.some_ (SlF.ofOwn ho9 (hs14.ow L8))
   · first | omega | (simp only [List.length_set]; omega)
   · first | omega | (simp only [List.length_set]; omega)
   refine WL.storeF1 (x' := _) hs14 ho9 Tryz.sizeOf3 rfl rfl rfl rfl rfl rfl rfl rfl rfl ?_ rfl (fun L16 whs17 hs17 ho18 _ => ?_)
   · first | omega | (simp only [List.length_set]; omega)
   refine WL.nil (WC.region (WL.r 3 hs17 [] rfl (WL.nil (hK13 _ _ (WC.region (WL.r 3 hs17 [] rfl (WL.nil ?_)))))))
   refine tkN (⟨sbF rfl, _, hs17, _, ?_, j + 1, (m + 1), _, rfl, ?_, ?_, ?_, ho18, ⟨rfl, ?_, ?_, trivial⟩⟩)
   · omega
   · omega
   · omega
   · first | exact p2.keep (by omega) (by omega) (by have h9 := h15; simpa using h9) | exact p2.skip (by omega) (by have h9 := h15; simpa using h9)
   · (refine congrArg some (congrArg (Value.int _) ?_); omega)
   · (refine congrArg some (congrArg (Value.int _) ?_); omega)
  refine WC.skip (hK13 _ _ (WC.region (WL.r 3 hs14 [] rfl (WL.nil (tkN ?_)))))
  refine ⟨sbF rfl, _, hs14, _, ?_, j + 1, m, _, rfl, ?_, ?_, ?_, ho9, ⟨rfl, ?_, ?_, trivial⟩⟩
  · omega
  · omega
  · omega
  · first | exact p2.keep (by omega) (by omega) (by have h9 := h15; simpa using h9) | exact p2.skip (by omega) (by have h9 := h15; simpa using h9)
  · (refine congrArg some (congrArg (Value.int _) ?_); omega)
  · (refine congrArg some (congrArg (Value.int _) ?_); omega)
 refine WC.exit (hK5 _ _ (WC.sr (WL.r 2 hs10 [] rfl ?_)))
 have hc_ := OwnF.cap ho9
 refine WL.val rfl rfl rfl (Run.sliceL (m) Tryz.runUnderlying23 Tryz.sizeOf3 rfl rfl rfl ?_ ?_) ?_
 · first | rfl | (omega)
 · refine ⟨?_, ?_, ?_⟩ <;> (omega)
 have hmt : (zs.take m).length = m := by rw [List.length_take]; omega
 have hcz := OwnF.cap ho9
 refine WL.clearT (m := m) (q := s.length - m) hs10 (OwnF.take (k := m) ho9 (by omega)) Tryz.underlying23 Tryz.zeroValue3 rfl rfl rfl rfl rfl ?_ (fun L19 whs20 hs20 ho21 => ?_)
 · omega
 refine WL.nil (WC.sr (WL.r 2 hs20 [] rfl (WL.val rfl rfl rfl (Run.sliceH0 m Tryz.runUnderlying23 Tryz.sizeOf3 rfl rfl rfl ?_ ?_) ?_)))
 · omega
 · omega
 refine WL.r 1 hs20 [] rfl (WL.nil (WC.ret (retV1 rfl (resV.tmp rfl) (⟨_, _, _, _, _, rfl, (St.keep1 hs20), ho21, p2.all (by omega)⟩))))
theorem k71_ (A_b : Option Addr) (n_b c_b : Nat) (b : List UInt8) (w : World) (f_b : SlF encB w A_b n_b b) (hc : n_b ≤ c_b) (hn : n_b ≤ 549755813888) :
    Calls Tryz.prog 254 #[.slice A_b n_b c_b, i64 0] w fun e w' => e = .returned (.tuple #[.int .i64 (rvN (runeL b)), .int .i64 (rvS (runeL b) : Nat)]) ∧ St w [] [] w' := by
 have hbl := f_b.len
 have hb0 := (gat encB b 0).toNat_lt
 have hb0' : (gat encB b (Int.toNat 0)).toNat < 2 ^ 8 := hb0
 refine enter 76 Tryz.func254 rfl Tryz.ntmps254 rfl rfl ?_
 have hs1 := St.init w
 refine WC.r1 hs1 [] rfl (WC.seq (fun K2 hK2 => WC.sr (WL.r 3 hs1 [] rfl (WL.pO tbk 4 Acts.nil hs1 [] rfl rfl rfl rfl (fun g_ => trivial) (WL.nil ?_)))))
 refine WC.cq rfl (fun h3 qh3 => ?_) (fun h3 qh3 => ?_)
 ·refine WC.r1 hs1 [] rfl (WC.ret (tkR ?_))
  clear hK2
  refine retV2 rfl (resV.tmp rfl) (resV.tmp rfl) (⟨congrArg Ending.returned ?_, hs1.nil⟩)
  have h0 : b = [] := List.eq_nil_of_length_eq_zero (by simp at qh3; omega)
  subst h0
  rw [runeL_nil]; rfl
 refine WC.skip (hK2 _ _ (WC.seq (fun K4 hK4 => WC.r1 hs1 [] rfl (WC.block ?_))))
 refine WC.lS [0, 1, 17] rfl hs1 (fun k_ f w' => ∃ (s : Nat), k_ = 4 - s ∧ (1 ≤ s) ∧ (s ≤ 4) ∧ (∀ t, 1 ≤ t → t < s → rtry b t = false) ∧ Sub [(6, .int .i64 s)] f) ((fun (s : Nat) => 4 - s) (1)) ?_ ?_
 ·refine ⟨1, rfl, ?_, ?_, ?_, ⟨rfl, trivial⟩⟩
  · omega
  · omega
  · intro t h1 h2; omega
 clear hs1
 rintro _ f w ⟨s, rfl, p0, p1, p2, hG⟩ hF hs5
 refine WC.sub _ (hG.app hF) ?_
 clear hG hF
 have ht4 := t4_bnd s
 refine WC.seq (fun K6 hK6 => WC.sr (WL.r 3 hs5 [] rfl ?_))
 refine WL.pA tbk 6 Acts.nil hs5 [] rfl rfl rfl rfl (fun g_ => by (try simp only [bf, within_iff, within_not] at g_); exact ⟨by omega, trivial⟩) (WL.nil (WC.cq rfl (fun h7 qh7 => ?_) (fun h7 qh7 => ?_)))
 ·refine WC.skip (hK6 _ _ (WC.seq (fun K8 hK8 => WC.block (WC.seq (fun K9 hK9 => WC.rH hs5 hs5 (fun _ hs10 => ?_))))))
  refine WH.rn [0, 1] hs10 [] rfl rfl ?_
  refine WH.take 2 rfl (by kernel_rfl) rfl rfl rfl hs10 (fun w_ hs_ => (Run.idx Tryz.runUnderlying22 Tryz.sizeOf5 rfl rfl rfl ?_ ?_ ?_)) ?_
  · exact SlF.some_ (SlF.st0 f_b (hs_ : St _ _ _ _))
  · first | omega | (simp; omega)
  · first | omega | (simp; omega)
  refine WH.take 3 rfl (by kernel_rfl) rfl rfl rfl hs10 (fun w_ hs_ => (Run.load Tryz.isAgg5 rfl rfl (SlF.one1 (SlF.st0 f_b (hs_ : St _ _ _ _)) ?_ rfl))) ?_
  · first | omega | (simp; omega)
  refine WH.rn [4, 6] hs10 [] rfl rfl (WH.o1 5 rfl (WL.buildF (F := encI) hs10 ([0, 0, 192, 224]) Tryz.runUnderlying23 Tryz.sizeOf3 Tryz.zeroValue3 rfl rfl rfl rfl rfl rfl rfl rfl rfl rfl rfl rfl (fun A14 c15 L11 whs12 hs12 ho13 => WL.nil ⟨(hs12.rm L11), ?_⟩)))
  refine WH.strS hs12 (fun w_ h_ => (h_.rm L11)) ?_
  refine WH.take 7 rfl (by kernel_rfl) rfl rfl rfl hs12 (fun w_ hs_ => (Run.idxN Tryz.runUnderlying23 Tryz.sizeOf3 rfl rfl rfl ?_ ?_ ?_)) ?_
  · exact SlF.some_ (SlF.ofOwn ho13 ((hs_ : St _ _ _ _).ow L11))
  · first | omega | (simp; omega)
  · first | omega | (simp; omega)
  refine WH.take 8 rfl (by kernel_rfl) rfl rfl rfl hs12 (fun w_ hs_ => (Run.load Tryz.isAgg3 rfl rfl (SlF.one1 (SlF.ofOwn ho13 ((hs_ : St _ _ _ _).ow L11)) ?_ rfl))) ?_
  · first | omega | (simp; omega)
  refine WH.rn [9, 10] hs12 [] rfl rfl (WH.dn (hK9 _ _ (WC.seq (fun K16 hK16 => WC.r1 hs12 [] rfl (WC.block ?_)))))
  refine WC.lS [0, 1, 6, 17, 18, 19, 20, 27, 30, 31, 32, 33, 34, 35, 36, 37, 38, 39] rfl hs12 (fun k_ f w' => ∃ (i : Nat), k_ = s - i ∧ (1 ≤ i) ∧ (i ≤ s) ∧ Sub [(8, .int .i64 i), (7, .int .i64 (candI b s (i - 1)))] f) ((fun (i : Nat) => s - i) (1)) ?_ ?_
  ·refine ⟨1, rfl, ?_, ?_, ⟨rfl, ?_, trivial⟩⟩
   · omega
   · omega
   · rfl
  clear hs12
  rintro _ f w ⟨i, rfl, p0, p1, hG⟩ hF hs17
  refine WC.sub _ (hG.app hF) ?_
  clear hG hF
  have hcb := candI_bnd (l := b) (s := s) (i := i - 1) (by omega)
  have hbi := (gat encB b i).toNat_lt
  have hbz : (gat encB b ((0 : Int) + (i : Int)).toNat).toNat < 2 ^ 8 := (gat encB b _).toNat_lt
  refine WC.seq (fun K18 hK18 => WC.r1 hs17 [] rfl ?_)
  refine WC.cD rfl (fun qh19 => ?_) (fun qh19 => ?_)
  ·refine WC.skip (hK18 _ _ (WC.seq (fun K20 hK20 => WC.block (WC.region (WL.r 6 hs17 [] rfl ?_)))))
   refine WL.val rfl rfl rfl (Run.idx Tryz.runUnderlying22 Tryz.sizeOf5 rfl rfl rfl ?_ ?_ ?_) ?_
   · exact SlF.some_ (SlF.st0 f_b hs17)
   · first | omega | (simp; omega)
   · first | omega | (simp; omega)
   refine WL.val rfl rfl rfl (Run.load Tryz.isAgg5 rfl rfl (SlF.one1 (SlF.st0 f_b hs17) ?_ rfl)) ?_
   · first | omega | (simp; omega)
   refine WL.r 4 hs17 [] rfl (WL.nil (hK20 _ _ (WC.region (WL.r 3 hs17 [] rfl (WL.nil (tkN ?_))))))
   refine ⟨sbF rfl, hs17, _, ?_, i + 1, rfl, ?_, ?_, ⟨rfl, ?_, trivial⟩⟩
   · omega
   · omega
   · omega
   · refine congrArg some (congrArg (Value.int _) ?_); have h9 := candI_next (l := b) (s := s) (i := i) (by omega); rw [h9]; simp
  refine WC.exit (hK16 _ _ (WC.sr (WL.r 1 hs17 [] rfl (WL.cl Tryz.call168 rfl (k11_ _ _) ?_))))
  rintro _ whs21 ⟨A22, c23, L1_24, rfl, hs21, ho25⟩
  replace hs21 := hs17.callF hs21
  refine ⟨_, rfl, WL.r 1 hs21 [] rfl (WL.nil (WC.sq1 hs21 (WQ.r 5 [] rfl ?_)))⟩
  apply WQ.gA 10 Acts.nil rfl
  ·intro g26 J27
   have qg26 := g26
   try simp only [bf, within_iff, within_not] at qg26
   refine WQ.runA tbk 1 (Acts.nil.cons (j := 4) rfl g26) [] rfl trivial ?_
   refine WQ.val (wantT rfl g26) rfl rfl (fun w_ hs_ => (Run.strOf (SlF.ofOwn ho25 ((hs_ : St _ _ _ _).ow L1_24)) Tryz.underlying22 Tryz.underlying5 Tryz.underlying9 rfl rfl)) ?_
   refine WQ.runA tbk 5 (Acts.nil.cons (j := 4) rfl g26) [] rfl ⟨by omega, trivial⟩ ?_
   refine WQ.val (wantT rfl g26) rfl rfl (fun w_ hs_ => (Run.sliceLH (0) (s) Tryz.runUnderlying22 Tryz.sizeOf5 rfl rfl rfl rfl ?_ ?_ ?_)) ?_
   · first | rfl | (omega)
   · first | rfl | (omega)
   · refine ⟨?_, ?_, ?_⟩ <;> (omega)
   refine WQ.val (wantT rfl g26) rfl rfl (fun w_ hs_ => (Run.strOf (SlF.cutC (lo := 0) (hi := s) (SlF.st0 f_b (hs_ : St _ _ _ _)) (by refine ⟨?_, ?_, ?_⟩ <;> (omega))) Tryz.underlying22 Tryz.underlying5 Tryz.underlying9 rfl rfl)) ?_
   refine WQ.runA tbk 1 (Acts.nil.cons (j := 4) rfl g26) [] rfl trivial (WQ.eA 10 Acts.nil J27 g26 rfl rfl)
  refine WQ.nil (fun _ (hs28 : St _ _ _ _) => ?_)
  refine WC.cq rfl (fun h29 qh29 => ?_) (fun h29 qh29 => ?_)
  ·refine WC.r1 hs28 [] rfl (WC.ret (ibR (tkR (tkR (ibR (tkR ?_))))))
   clear hK8 hK4
   refine retV2 rfl (resV.tmp rfl) (resV.tmp rfl) (⟨congrArg Ending.returned ?_, hs28.nil⟩)
   obtain rfl : i = s := by omega
   have hok : rtry b i = true := by rw [← rtry_iff (by omega), ← candI_cand (by omega) (by omega) (by omega)]; simpa [Int.ofNat_inj] using qh29
   rw [runeL_at hok p0 (by omega) p2, ← candI_cand (by omega) (by omega) (by omega)]; rfl
  refine WC.skip (hK8 _ _ (WC.region (WL.r 3 hs28 [] rfl (WL.nil (tkN ?_)))))
  refine ⟨sbF rfl, (hs28.drop (by repeat (first | exact List.Sublist.refl _ | exact List.sublist_append_left _ _ | exact List.Sublist.trans (List.sublist_append_left _ _) (List.sublist_append_left _ _) | apply List.Sublist.cons | refine List.Sublist.trans ?_ (sR _)))), _, ?_, s + 1, rfl, ?_, ?_, ?_, ⟨rfl, trivial⟩⟩
  · omega
  · omega
  · omega
  · intro t h1 h2; rcases Nat.lt_or_ge t s with h3 | h3
    · exact p2 t h1 h3
    obtain rfl : t = s := by omega
    obtain rfl : i = t := by omega
    rw [← rtry_iff (by omega), ← candI_cand (by omega) (by omega) (by omega)]; simpa [Int.ofNat_inj] using qh29
 refine WC.exit (hK4 _ _ (WC.r1 hs5 [] rfl (WC.ret (retV2 rfl (resV.tmp rfl) (resV.tmp rfl) (⟨congrArg Ending.returned ?_, hs5.nil⟩)))))
 have hno : runeL b = none := runeL_none (fun t h1 h3 => by
     rcases Nat.lt_or_ge t s with h4 | h4
     · exact p2 t h1 h4
     · exact rtry_len (by simp at qh7; omega))
 rw [hno]; rfl
theorem k72_ (A_b : Option Addr) (n_b c_b : Nat) (b : List UInt8) (w : World) (f_b : SlF encB w A_b n_b b) (hc : n_b ≤ c_b) (hn : n_b ≤ 549755813888) :
    Calls Tryz.prog 220 #[.slice A_b n_b c_b] w fun e w' => e = .returned (.bool (runeBeg b)) ∧ St w [] [] w' := by
 have hbl := f_b.len
 refine enter 53 Tryz.func220 rfl Tryz.ntmps220 rfl rfl ?_
 have hs1 := St.init w
 refine WC.r1 hs1 [] rfl (WC.seq (fun K2 hK2 => WC.sr (WL.r 4 hs1 [] rfl (WL.pO tbk 3 Acts.nil hs1 [] rfl rfl rfl rfl (fun g_ => trivial) (WL.nil ?_)))))
 refine WC.cq rfl (fun h3 qh3 => ?_) (fun h3 qh3 => ?_)
 ·refine WC.r1 hs1 [] rfl (WC.ret (tkR ?_))
  clear hK2
  refine rtv rfl rfl hs1 ?_
  have h9 : ¬ (b.length = 1 ∨ b.length = 2) := by simp at qh3; omega
  rw [beg_len h9]
 have hl : b.length = 1 ∨ b.length = 2 := by simp at qh3; omega
 refine WC.skip (hK2 _ _ (WC.seq (fun K4 hK4 => WC.r1 hs1 [] rfl (WC.block ?_))))
 refine WC.lS [0, 17] rfl hs1 (fun k_ f w' => ∃ (x : Nat), k_ = 192 - x ∧ (128 ≤ x) ∧ (x ≤ 192) ∧ (∀ y : Nat, 128 ≤ y → y < x → begHit b (ub y) = false) ∧ Sub [(3, .int .i64 x)] f) ((fun (x : Nat) => 192 - x) (128)) ?_ ?_
 ·refine ⟨128, rfl, ?_, ?_, ?_, ⟨rfl, trivial⟩⟩
  · omega
  · omega
  · intro y h1 h2; omega
 clear hs1
 rintro _ f w ⟨x, rfl, p0, p1, p2, hG⟩ hF hs5
 refine WC.sub _ (hG.app hF) ?_
 clear hG hF
 refine WC.seq (fun K6 hK6 => WC.r1 hs5 [] rfl ?_)
 refine WC.cD rfl (fun qh7 => ?_) (fun qh7 => ?_)
 ·refine WC.skip (hK6 _ _ (WC.seq (fun K8 hK8 => WC.block (WC.sr (WL.buildF (F := encB) hs5 ([]) Tryz.runUnderlying22 Tryz.sizeOf5 Tryz.zeroValue5 rfl rfl rfl rfl rfl rfl rfl rfl rfl rfl rfl rfl (fun A12 c13 L9 whs10 hs10 ho11 => WL.r 1 hs10 [] rfl ?_))))))
  refine WL.appendG hs10 ho11 (SlF.src (SlF.st0 f_b hs10) Tryz.underlying22) Tryz.underlying22 inf5 rfl rfl rfl rfl rfl rfl rfl rfl rfl rfl ?_ (fun A17 c18 L14 whs15 hs15 ho16 => ?_)
  · simp; omega
  refine WL.r 2 hs15 [] rfl (WL.buildSlice hs15 Tryz.runUnderlying22 Tryz.sizeOf5 Tryz.zeroValue5 rfl rfl rfl rfl rfl rfl rfl rfl rfl rfl (fun b19 whs20 hs20 => ?_))
  refine WL.appendG (hs20.fr L14) ho16 (srcB1 Tryz.underlying22 (hs20.own _ (nthL_mem (i := 0) rfl)).1) Tryz.underlying22 inf5 rfl rfl rfl rfl rfl rfl rfl rfl rfl rfl ?_ (fun A24 c25 L21 whs22 hs22 ho23 => ?_)
  · simp; omega
  replace hs22 := St.back [_] hs22
  refine WL.r 1 hs22 [] rfl (WL.nil (WC.sr (WL.r 1 hs22 [] rfl (WL.cl Tryz.call254 rfl (k71_ _ _ _ _ _ (SlF.ofOwn ho23 (hs22.ow L21)) (OwnF.cap ho23) ?_) ?_))))
  · first | assumption | rfl | omega | (simp; omega)
  rintro _ whs26 ⟨rfl, hs26⟩
  replace hs26 := hs22.call0 hs26
  refine ⟨_, rfl, WL.r 5 hs26 [] rfl (WL.nil (WC.seq (fun K27 hK27 => WC.r1 hs26 [] rfl ?_)))⟩
  refine WC.cD rfl (fun qh28 => ?_) (fun qh28 => ?_)
  ·refine WC.r1 hs26 [] rfl (WC.ret (tkR (ibR (tkR (tkR (ibR (tkR ?_)))))))
   clear hK27 hK8 hK4
   refine rtv rfl rfl hs26 ?_
   rw [beg_yes hl p0 (by omega) (by unfold begHit; rw [decide_eq_true (by simpa [← Int.ofNat_inj] using qh28)]; rfl)]
  have e1 : ¬ rvS (runeL (b ++ [ub x])) = b.length + 1 := by simpa [← Int.ofNat_inj] using qh28
  refine WC.skip (hK27 _ _ (WC.r1 hs26 [] rfl ?_))
  refine WC.cD rfl (fun qh29 => ?_) (fun qh29 => ?_)
  ·refine WC.sr (WL.buildF (F := encB) hs26 ([]) Tryz.runUnderlying22 Tryz.sizeOf5 Tryz.zeroValue5 rfl rfl rfl rfl rfl rfl rfl rfl rfl rfl rfl rfl (fun A33 c34 L30 whs31 hs31 ho32 => ?_))
   replace hs31 := St.back [_] hs31
   refine WL.r 1 hs31 [] rfl (WL.appendG (hs31.fr L30) ho32 (SlF.src (SlF.ofOwn ho23 (hs31.ow L21)) Tryz.underlying22) Tryz.underlying22 inf5 rfl rfl rfl rfl rfl rfl rfl rfl rfl rfl ?_ (fun A38 c39 L35 whs36 hs36 ho37 => ?_))
   · simp; omega
   replace hs36 := St.back [_] hs36
   refine WL.buildSlice hs36 Tryz.runUnderlying22 Tryz.sizeOf5 Tryz.zeroValue5 rfl rfl rfl rfl rfl rfl rfl rfl rfl rfl (fun b40 whs41 hs41 => ?_)
   refine WL.appendG (hs41.fr L35) ho37 (srcF (F := encB) (ys := [129]) Tryz.underlying22 rfl rfl (hs41.own _ (nthL_mem (i := 0) rfl)).1) Tryz.underlying22 inf5 rfl rfl rfl rfl rfl rfl rfl rfl rfl rfl ?_ (fun A45 c46 L42 whs43 hs43 ho44 => ?_)
   · simp; omega
   replace hs43 := St.back [_, _] hs43
   refine WL.r 1 hs43 [] rfl (WL.nil (WC.sr (WL.r 1 hs43 [] rfl (WL.cl Tryz.call254 rfl (k71_ _ _ _ _ _ (SlF.ofOwn ho44 (hs43.ow L42)) (OwnF.cap ho44) ?_) ?_))))
   · first | assumption | rfl | omega | (simp; omega)
   rintro _ whs47 ⟨rfl, hs47⟩
   replace hs47 := hs43.call0 hs47
   refine ⟨_, rfl, WL.r 5 hs47 [] rfl (WL.nil (WC.r1 hs47 [] rfl (WC.cD rfl (fun qh48 => ?_) (fun qh48 => ?_))))⟩
   ·refine WC.r1 hs47 [] rfl (WC.ret (ibR (tkR (tkR (ibR (tkR ?_))))))
    clear hK8 hK4
    refine rtv rfl rfl hs47 ?_
    rw [beg_yes hl p0 (by omega) (by unfold begHit; rw [decide_eq_true (show b.length = 1 by omega), decide_eq_true (show rvS (runeL (b ++ [ub x, 129])) = 3 by simp at qh48; omega)]; simp)]
   have e2 : b.length = 1 → ¬ rvS (runeL (b ++ [ub x, 129])) = 3 := fun _ => by simp at qh48; omega
   refine WC.skip (hK8 _ _ (WC.region (WL.r 3 hs47 [] rfl (WL.nil (tkN ?_)))))
   refine ⟨sbF rfl, (hs47.drop (by repeat (first | exact List.Sublist.refl _ | exact List.sublist_append_left _ _ | exact List.Sublist.trans (List.sublist_append_left _ _) (List.sublist_append_left _ _) | apply List.Sublist.cons | refine List.Sublist.trans ?_ (sR _)))), _, ?_, x + 1, rfl, ?_, ?_, ?_, ⟨rfl, trivial⟩⟩
   · omega
   · omega
   · omega
   · intro y h1 h2; rcases Nat.lt_or_ge y x with h3 | h3
     · exact p2 y h1 h3
     obtain rfl : y = x := by omega
     unfold begHit; rw [decide_eq_false e1]; simp only [Bool.false_or, Bool.and_eq_false_iff, decide_eq_false_iff_not]; by_cases h9 : b.length = 1
     · exact .inr (e2 h9)
     · exact .inl h9
  have e2 : b.length = 1 → ¬ rvS (runeL (b ++ [ub x, 129])) = 3 := fun h_ => absurd h_ (by omega)
  refine WC.skip (hK8 _ _ (WC.region (WL.r 3 hs26 [] rfl (WL.nil (tkN ?_)))))
  refine ⟨sbF rfl, (hs26.drop (by repeat (first | exact List.Sublist.refl _ | exact List.sublist_append_left _ _ | exact List.Sublist.trans (List.sublist_append_left _ _) (List.sublist_append_left _ _) | apply List.Sublist.cons | refine List.Sublist.trans ?_ (sR _)))), _, ?_, x + 1, rfl, ?_, ?_, ?_, ⟨rfl, trivial⟩⟩
  · omega
  · omega
  · omega
  · intro y h1 h2; rcases Nat.lt_or_ge y x with h3 | h3
    · exact p2 y h1 h3
    obtain rfl : y = x := by omega
    unfold begHit; rw [decide_eq_false e1]; simp only [Bool.false_or, Bool.and_eq_false_iff, decide_eq_false_iff_not]; by_cases h9 : b.length = 1
    · exact .inr (e2 h9)
    · exact .inl h9
 refine WC.exit (hK4 _ _ (WC.r1 hs5 [] rfl (WC.ret (rtv rfl rfl hs5 ?_))))
 rw [beg_no hl (fun y h1 h2 => p2 y h1 (by omega))]
theorem k73_ (n : Int) (w : World) :
    Calls Tryz.prog 188 #[i64 n] w fun e w' => e = .returned (.bool (!within n 0 9999)) ∧ St w [] [] w' := by
 refine enter 6 Tryz.func188 rfl Tryz.ntmps188 rfl rfl ?_
 have hs1 := St.init w
 refine WC.r1 hs1 [] rfl (WC.sr (WL.r 1 hs1 [] rfl (WL.cl Tryz.call97 rfl (k0_ _ _ _ _) ?_)))
 rintro _ whs2 ⟨rfl, hs2⟩
 replace hs2 := hs1.call0 hs2
 refine ⟨_, rfl, WL.r 2 hs2 [] rfl (WL.nil (WC.ret (rtv rfl rfl hs2 ?_)))⟩
 rfl
theorem k74_ (A_s : Option Addr) (n_s c_s : Nat) (s : List Int) (w : World) (f_s : SlF encI w A_s n_s s) (hn : n_s ≤ 1099511627776) :
    Calls Tryz.prog 226 #[.slice A_s n_s c_s, .func (.func 188) #[] #[]] w fun e w' => e = .returned (.int .i64 (findI (fun n => !within n 0 9999) s)) ∧ St w [] [] w' := by
 refine enter 19 Tryz.func226 rfl Tryz.ntmps226 rfl rfl ?_
 have hs1 := St.init w
 refine WC.r1 hs1 [] rfl (WC.seq (fun K2 hK2 => WC.r1 hs1 [] rfl (WC.block ?_)))
 refine WC.lS [0, 1, 7] rfl hs1 (fun k_ f w' => ∃ (i : Nat), k_ = n_s - i ∧ (i ≤ n_s) ∧ (∀ j, j < i → (fun n => !within n 0 9999) (gat encI s j) = false) ∧ Sub [(8, .int .i64 i)] f) ((fun (i : Nat) => n_s - i) (0)) ?_ ?_
 ·refine ⟨0, rfl, ?_, ?_, ⟨rfl, trivial⟩⟩
  · exact Nat.zero_le _
  · exact fun j hj => absurd hj (by omega)
 clear hs1
 rintro _ f w ⟨i, rfl, p0, p1, hG⟩ hF hs3
 refine WC.sub _ (hG.app hF) ?_
 clear hG hF
 refine WC.r1 hs3 [] rfl (WC.seq (fun K4 hK4 => ?_))
 refine WC.cond rfl (fun h5 => ?_) (fun h5 => ?_)
 ·have qh5 := h5
  try simp only [decide_eq_true_eq, decide_eq_false_iff_not] at qh5
  refine WC.skip (hK4 _ _ (WC.seq (fun K6 hK6 => WC.block (WC.r1 hs3 [] rfl (WC.sr (WL.r 3 hs3 [] rfl ?_))))))
  refine WL.val rfl rfl rfl (Run.idxN Tryz.runUnderlying23 Tryz.sizeOf3 rfl rfl rfl ?_ ?_ ?_) ?_
  · exact SlF.some_ (SlF.st0 f_s hs3)
  · omega
  · omega
  refine WL.val rfl rfl rfl (Run.load Tryz.isAgg3 rfl rfl (SlF.one1 (SlF.st0 f_s hs3) ?_ rfl)) ?_
  · omega
  refine WL.cl Tryz.call188 rfl (k73_ _ _) ?_
  rintro _ whs7 ⟨rfl, hs7⟩
  replace hs7 := hs3.call0 hs7
  refine ⟨_, rfl, WL.nil (WC.cond rfl (fun h8 => ?_) (fun h8 => ?_))⟩
  ·have qh8 := h8
   try simp only [decide_eq_true_eq, decide_eq_false_iff_not] at qh8
   refine WC.r1 hs7 [] rfl (WC.ret (ibR (tkR (tkR (ibR (tkR ?_))))))
   clear hK6 hK2
   refine rtv rfl rfl hs7 ?_
   rw [findI_some (F := encI) (by rw [f_s.len]; omega) p1 h8]
  have qh8 := h8
  try simp only [decide_eq_true_eq, decide_eq_false_iff_not] at qh8
  refine WC.skip (hK6 _ _ (WC.region (WL.r 2 hs7 [] rfl (WL.nil (tkN ?_)))))
  refine ⟨sbF rfl, hs7, _, ?_, i + 1, rfl, ?_, ?_, ⟨rfl, trivial⟩⟩
  · omega
  · omega
  · intro j hj; rcases Nat.lt_or_ge j i with h_ | h_
    · exact p1 j h_
    · obtain rfl : j = i := by omega
      exact h8
 have qh5 := h5
 try simp only [decide_eq_true_eq, decide_eq_false_iff_not] at qh5
 refine WC.exit (hK2 _ _ (WC.r1 hs3 [] rfl (WC.ret (rtv rfl rfl hs3 ?_))))
 rw [findI_none (F := encI) (fun j hj => p1 j (by rw [f_s.len] at hj; omega))]
theorem k75_ (A_s : Option Addr) (n_s c_s : Nat) (s : List Int) (w : World) (f_s : SlF encI w A_s n_s s) (hn : n_s ≤ 549755813888) :
    Calls Tryz.prog 187 #[.slice A_s n_s c_s, .func (.func 188) #[] #[]] w fun e w' => e = .returned (.bool (decide (0 ≤ findI (fun n => !within n 0 9999) s))) ∧ St w [] [] w' := by
 refine enter 9 Tryz.func187 rfl Tryz.ntmps187 rfl rfl ?_
 have hs1 := St.init w
 refine WC.r1 hs1 [] rfl (WC.sr (WL.r 2 hs1 [] rfl (WL.cl Tryz.call226 rfl (k74_ _ _ _ _ _ (SlF.st0 f_s hs1) ?_) ?_)))
 · first | assumption | rfl | omega
 rintro _ whs2 ⟨rfl, hs2⟩
 replace hs2 := hs1.call0 hs2
 refine ⟨_, rfl, WL.r 2 hs2 [] rfl (WL.nil (WC.ret (rtv rfl rfl hs2 ?_)))⟩
 rfl
theorem k76_ (A_l : Option Addr) (n_l c_l : Nat) (l : List Int) (w : World) (f_l : SlF encI w A_l n_l l) (hn : n_l ≤ 549755813888) :
    Calls Tryz.prog 101 #[.slice A_l n_l c_l] w fun e w' => e = .returned (.bool (areArgs l)) ∧ St w [] [] w' := by
 refine enter 11 Tryz.func101 rfl Tryz.ntmps101 rfl rfl ?_
 have hs1 := St.init w
 refine WC.r1 hs1 [] rfl (WC.sr (WL.r 4 hs1 [] rfl ?_))
 apply WL.gA 3 Acts.nil hs1 rfl
 ·intro g2 J3
  have qg2 := g2
  try simp only [bf, within_iff, within_not] at qg2
  refine WL.runA tbk 1 (Acts.nil.cons (j := 3) rfl g2) hs1 [] rfl trivial (WL.call (wantT rfl g2) rfl rfl (Run.call Tryz.call187 rfl rfl rfl) (k75_ _ _ _ _ _ (SlF.st0 f_l hs1) ?_) ?_)
  · first | assumption | rfl | omega
  rintro _ whs4 ⟨rfl, hs4⟩
  replace hs4 := hs1.call0 hs4
  refine ⟨_, rfl, WL.runA tbk 1 (Acts.nil.cons (j := 3) rfl g2) hs4 [] rfl trivial (WL.eA 3 Acts.nil J3 hs4 g2 rfl rfl)⟩
 intro _ hs5
 refine WL.r 1 hs5 [] rfl (WL.nil (WC.ret (rtv rfl rfl hs5 ?_)))
 rw [all_find, ← f_l.len]; unfold areArgs; rw [show decide ((l.length : Int) ≤ 8) = decide (l.length ≤ 8) from by rw [decide_eq_decide]; omega]
theorem k77_ (n : Int) (w : World) :
    Calls Tryz.prog 219 #[i64 n] w fun e w' => e = .returned (.bool (decide (n = 2) || decide (n = 3))) ∧ St w [] [] w' := by
 refine enter 9 Tryz.func219 rfl Tryz.ntmps219 rfl rfl ?_
 have hs1 := St.init w
 refine WC.r1 hs1 [] rfl (WC.sr (WL.r 3 hs1 [] rfl (WL.pO tbk 2 Acts.nil hs1 [] rfl rfl rfl rfl (fun g_ => trivial) (WL.r 1 hs1 [] rfl (WL.nil (WC.ret (retV1 rfl (resV.tmp rfl) ?_)))))))
 refine ⟨congrArg Ending.returned ?_, hs1.nil⟩
 rfl
theorem k78_ (p : VpR) (w : World) (f_p : okVpR 549755813888 w p) :
    Calls Tryz.prog 165 #[.agg #[i64 p.State, .bool p.Mark, .slice p.Args.A p.Args.n p.Args.c, .slice p.Part.A p.Part.n p.Part.c]] w fun e w' => e = .returned (.bool (vpOk p.dat)) ∧ St w [] [] w' := by
 have nb_p_Args := f_p.Args_n
 have nl_p_Args := f_p.Args.len
 have nb_p_Part := f_p.Part_n
 have nl_p_Part := f_p.Part.len
 have hal := f_p.Args.len
 have hpl := f_p.Part.len
 have e1 : decide ((p.Args.n : Int) = 0) = decide (p.dat.Args.length = 0) := by rw [decide_eq_decide]; show _ ↔ p.Args.xs.length = 0; omega
 have e2 : decide ((p.Part.n : Int) = 0) = decide (p.dat.Part.length = 0) := by rw [decide_eq_decide]; show _ ↔ p.Part.xs.length = 0; omega
 refine enter 63 Tryz.func165 rfl Tryz.ntmps165 rfl rfl ?_
 have hs1 := St.init w
 refine WC.sr (WL.bx hs1 rfl (fun b2 _ hs3 => WL.r 1 hs3 [] rfl (WL.nil (WC.seq (fun K4 hK4 => WC.sr (WL.r 4 hs3 [0] rfl (WL.pO tbk 3 Acts.nil hs3 [0] rfl rfl rfl rfl (fun g_ => ⟨rfl, trivial⟩) ?_)))))))
 refine WL.r 1 hs3 [] rfl (WL.pO tbk 4 Acts.nil hs3 [0] rfl rfl rfl rfl (fun g_ => ⟨rfl, trivial⟩) (WL.r 1 hs3 [] rfl ?_))
 apply WL.gO 14 Acts.nil hs3 rfl
 ·intro g5 J6
  have qg5 := g5
  try simp only [bf, within_iff, within_not] at qg5
  refine WL.runA tbk 2 (Acts.nil.cons (j := 14) rfl g5) hs3 [0] rfl ⟨rfl, trivial⟩ (WL.call (wantF rfl g5) rfl rfl (Run.call Tryz.call219 rfl rfl rfl) (k77_ _ _) ?_)
  rintro _ whs7 ⟨rfl, hs7⟩
  replace hs7 := hs3.call0 hs7
  refine ⟨_, rfl, WL.runA tbk 2 (Acts.nil.cons (j := 14) rfl g5) hs7 [] rfl trivial ?_⟩
  apply WL.gA 8 (Acts.nil.cons (j := 14) rfl g5) hs7 rfl
  ·intro g8 J9
   have qg8 := g8
   try simp only [bf, within_iff, within_not] at qg8
   refine WL.runA tbk 3 (Acts.nil.cons (j := 19) rfl g8) hs7 [0] rfl ⟨rfl, trivial⟩ (WL.pO tbk 4 (Acts.nil.cons (j := 19) rfl g8) hs7 [0] rfl rfl rfl rfl (fun g_ => ⟨rfl, trivial⟩) (WL.eA 4 (Acts.nil.cons (j := 14) rfl g5) J9 hs7 g8 rfl rfl))
  intro _ hs10
  exact WL.eO 6 Acts.nil J6 hs10 g5 rfl rfl
 intro _ hs11
 refine WL.nil (WC.cq rfl (fun h12 qh12 => ?_) (fun h12 qh12 => ?_))
 ·have hbad : vpBad p.dat = true := by unfold vpBad; rw [show p.dat.Args.length = p.Args.n from hal]; exact h12
  refine WC.r1 hs11 [] rfl (WC.ret (tkR ?_))
  clear hK4
  refine rtv rfl rfl hs11 ?_
  rw [vpOk_bad hbad]
 have hbad : vpBad p.dat = false := by unfold vpBad; rw [show p.dat.Args.length = p.Args.n from hal]; exact h12
 refine WC.skip (hK4 _ _ (WC.seq (fun K13 hK13 => WC.r1 hs11 [0] rfl (WC.block ?_))))
 refine WC.lS [1, 34, 36, 37] rfl hs11 (fun k_ f w' => ∃ (i : Nat), k_ = p.Args.n - i ∧ (i ≤ p.Args.n) ∧ (∀ j, j < i → within (gat encI p.Args.xs j) 0 9999 = true) ∧ Sub [(38, .int .i64 i)] f) ((fun (i : Nat) => p.Args.n - i) (0)) ?_ ?_
 ·refine ⟨0, rfl, ?_, ?_, ⟨rfl, trivial⟩⟩
  · exact Nat.zero_le _
  · exact fun j hj => absurd hj (by omega)
 clear hs11
 rintro _ f w ⟨i, rfl, p0, p1, hG⟩ hF hs14
 refine WC.sub _ (hG.app hF) ?_
 clear hG hF
 refine WC.r1 hs14 [] rfl (WC.seq (fun K15 hK15 => ?_))
 refine WC.cD rfl (fun qh16 => ?_) (fun qh16 => ?_)
 ·refine WC.skip (hK15 _ _ (WC.seq (fun K17 hK17 => WC.block (WC.sr ?_))))
  refine WL.val rfl rfl rfl (Run.idxN Tryz.runUnderlying23 Tryz.sizeOf3 rfl rfl rfl ?_ ?_ ?_) ?_
  · exact SlF.some_ (SlF.st0 f_p.Args hs14)
  · omega
  · omega
  refine WL.val rfl rfl rfl (Run.load Tryz.isAgg3 rfl rfl (SlF.one1 (SlF.st0 f_p.Args hs14) ?_ rfl)) ?_
  · omega
  refine WL.r 1 hs14 [] rfl (WL.nil (WC.sr (WL.r 3 hs14 [] rfl (WL.pO tbk 2 Acts.nil hs14 [] rfl rfl rfl rfl (fun g_ => trivial) (WL.nil (WC.cq rfl (fun h18 qh18 => ?_) (fun h18 qh18 => ?_)))))))
  ·refine WC.r1 hs14 [] rfl (WC.ret (ibR (tkR (tkR (ibR (tkR ?_))))))
   clear hK17 hK13
   refine rtv rfl rfl hs14 ?_
   rw [vpOk_arg (v := p.dat) (j := i) (by show i < p.Args.xs.length; omega) (by rw [← Bool.not_eq_true, within_iff]; show ¬ (0 ≤ gat encI p.Args.xs i ∧ gat encI p.Args.xs i ≤ 9999); simp at qh18; omega)]
  refine WC.skip (hK17 _ _ (WC.region (WL.r 2 hs14 [] rfl (WL.nil (tkN ?_)))))
  refine ⟨sbF rfl, hs14, _, ?_, i + 1, rfl, ?_, ?_, ⟨rfl, trivial⟩⟩
  · omega
  · omega
  · intro j hj; rcases Nat.lt_or_ge j i with h_ | h_
    · exact p1 j h_
    · obtain rfl : j = i := by omega
      rw [within_iff]; simp at qh18; omega
 refine WC.exit (hK13 _ _ (WC.sr (WL.r 5 hs14 [0] rfl ?_)))
 apply WL.gO 8 Acts.nil hs14 rfl
 ·intro g19 J20
  have qg19 := g19
  try simp only [bf, within_iff, within_not] at qg19
  refine WL.runA tbk 4 (Acts.nil.cons (j := 4) rfl g19) hs14 [0] rfl ⟨rfl, trivial⟩ ?_
  apply WL.gA 3 (Acts.nil.cons (j := 4) rfl g19) hs14 rfl
  ·intro g21 J22
   have qg21 := g21
   try simp only [bf, within_iff, within_not] at qg21
   refine WL.runA tbk 2 (Acts.nil.cons (j := 8) rfl g21) hs14 [0] rfl ⟨rfl, trivial⟩ (WL.call (wantT rfl g21) rfl rfl (Run.call Tryz.call220 rfl rfl rfl) (k72_ _ _ _ _ _ (SlF.st0 f_p.Part hs14) f_p.Part_c ?_) ?_)
   · first | assumption | rfl | omega
   rintro _ whs23 ⟨rfl, hs23⟩
   replace hs23 := hs14.call0 hs23
   refine ⟨_, rfl, WL.eA 3 (Acts.nil.cons (j := 4) rfl g19) J22 hs23 g21 rfl rfl⟩
  intro _ hs24
  exact WL.eO 5 Acts.nil J20 hs24 g19 rfl rfl
 intro _ hs25
 refine WL.r 1 hs25 [] rfl (WL.nil (WC.ret (rtv rfl rfl hs25 ?_)))
 rw [vpOk_end hbad (fun j hj => p1 j (by have : j < p.Args.xs.length := hj; omega)), e2]; rfl
theorem k79_ (A_l : Option Addr) (n_l c_l : Nat) (l : List Int) (d : Int) (w : World) (f_l : SlF encI w A_l n_l l) (hn : n_l ≤ 549755813888) :
    Calls Tryz.prog 233 #[.slice A_l n_l c_l, i64 0, i64 d] w fun e w' => e = .returned (i64 (argI l 0 d)) ∧ St w [] [] w' := by
 have hl := f_l.len
 refine enter 23 Tryz.func233 rfl Tryz.ntmps233 rfl rfl ?_
 have hs1 := St.init w
 refine WC.r1 hs1 [] rfl (WC.seq (fun K2 hK2 => WC.sr (WL.r 5 hs1 [] rfl ?_)))
 apply WL.gA 5 Acts.nil hs1 rfl
 ·intro g3 J4
  have qg3 := g3
  try simp only [bf, within_iff, within_not] at qg3
  refine WL.runA tbk 2 (Acts.nil.cons (j := 4) rfl g3) hs1 [] rfl trivial (WL.val (wantT rfl g3) rfl rfl (Run.idx Tryz.runUnderlying23 Tryz.sizeOf3 rfl rfl rfl ?_ ?_ ?_) ?_)
  · exact SlF.some_ (SlF.st0 f_l hs1)
  · omega
  · omega
  refine WL.val (wantT rfl g3) rfl rfl (Run.load Tryz.isAgg3 rfl rfl (SlF.one1 (SlF.st0 f_l hs1) ?_ rfl)) ?_
  · omega
  refine WL.runA tbk 1 (Acts.nil.cons (j := 4) rfl g3) hs1 [] rfl trivial (WL.eA 5 Acts.nil J4 hs1 g3 rfl rfl)
 intro _ hs5
 refine WL.nil (WC.cq rfl (fun h6 qh6 => ?_) (fun h6 qh6 => ?_))
 ·have hp : 0 < l.length ∧ iat l 0 ≠ 0 := by have h9 := h6; simp at h9; exact ⟨by omega, h9.2⟩
  refine WC.sr (WL.r 2 hs5 [] rfl (WL.val rfl rfl rfl (Run.idx Tryz.runUnderlying23 Tryz.sizeOf3 rfl rfl rfl ?_ ?_ ?_) ?_))
  · exact SlF.some_ (SlF.st0 f_l hs5)
  · omega
  · omega
  refine WL.val rfl rfl rfl (Run.load Tryz.isAgg3 rfl rfl (SlF.one1 (SlF.st0 f_l hs5) ?_ rfl)) ?_
  · omega
  refine WL.r 1 hs5 [] rfl (WL.nil (WC.ret (tkR ?_)))
  clear hK2
  refine rtv rfl rfl hs5 ?_
  rw [show argI l 0 d = iat l 0 from by unfold argI; rw [if_pos hp]]; rfl
 have hp : ¬ (0 < l.length ∧ iat l 0 ≠ 0) := by rintro ⟨h7, h8⟩; have h9 := h6; simp at h9; exact h8 (h9 (by omega))
 refine WC.skip (hK2 _ _ (WC.r1 hs5 [] rfl (WC.ret (rtv rfl rfl hs5 ?_))))
 rw [show argI l 0 d = d from by unfold argI; rw [if_neg hp]]
theorem k80_ (A_l : Option Addr) (n_l c_l : Nat) (l : List Int) (d : Int) (w : World) (f_l : SlF encI w A_l n_l l) (hn : n_l ≤ 549755813888) :
    Calls Tryz.prog 233 #[.slice A_l n_l c_l, i64 1, i64 d] w fun e w' => e = .returned (i64 (argI l 1 d)) ∧ St w [] [] w' := by
 have hl := f_l.len
 refine enter 23 Tryz.func233 rfl Tryz.ntmps233 rfl rfl ?_
 have hs1 := St.init w
 refine WC.r1 hs1 [] rfl (WC.seq (fun K2 hK2 => WC.sr (WL.r 5 hs1 [] rfl ?_)))
 apply WL.gA 5 Acts.nil hs1 rfl
 ·intro g3 J4
  have qg3 := g3
  try simp only [bf, within_iff, within_not] at qg3
  refine WL.runA tbk 2 (Acts.nil.cons (j := 4) rfl g3) hs1 [] rfl trivial (WL.val (wantT rfl g3) rfl rfl (Run.idx Tryz.runUnderlying23 Tryz.sizeOf3 rfl rfl rfl ?_ ?_ ?_) ?_)
  · exact SlF.some_ (SlF.st0 f_l hs1)
  · omega
  · omega
  refine WL.val (wantT rfl g3) rfl rfl (Run.load Tryz.isAgg3 rfl rfl (SlF.one1 (SlF.st0 f_l hs1) ?_ rfl)) ?_
  · omega
  refine WL.runA tbk 1 (Acts.nil.cons (j := 4) rfl g3) hs1 [] rfl trivial (WL.eA 5 Acts.nil J4 hs1 g3 rfl rfl)
 intro _ hs5
 refine WL.nil (WC.cq rfl (fun h6 qh6 => ?_) (fun h6 qh6 => ?_))
 ·have hp : 1 < l.length ∧ iat l 1 ≠ 0 := by have h9 := h6; simp at h9; exact ⟨by omega, h9.2⟩
  refine WC.sr (WL.r 2 hs5 [] rfl (WL.val rfl rfl rfl (Run.idx Tryz.runUnderlying23 Tryz.sizeOf3 rfl rfl rfl ?_ ?_ ?_) ?_))
  · exact SlF.some_ (SlF.st0 f_l hs5)
  · omega
  · omega
  refine WL.val rfl rfl rfl (Run.load Tryz.isAgg3 rfl rfl (SlF.one1 (SlF.st0 f_l hs5) ?_ rfl)) ?_
  · omega
  refine WL.r 1 hs5 [] rfl (WL.nil (WC.ret (tkR ?_)))
  clear hK2
  refine rtv rfl rfl hs5 ?_
  rw [show argI l 1 d = iat l 1 from by unfold argI; rw [if_pos hp]]; rfl
 have hp : ¬ (1 < l.length ∧ iat l 1 ≠ 0) := by rintro ⟨h7, h8⟩; have h9 := h6; simp at h9; exact h8 (h9 (by omega))
 refine WC.skip (hK2 _ _ (WC.r1 hs5 [] rfl (WC.ret (rtv rfl rfl hs5 ?_))))
 rw [show argI l 1 d = d from by unfold argI; rw [if_neg hp]]
theorem k81_ (b_s : Nat) (s : ScrR) (L_s : Hp) (x : Int) (y : Int) (w : World) (hb_s : w.heap[b_s]? = some (Obj.cells (List.toArray [i64 s.W, i64 s.H, i64 s.Main.W, i64 s.Main.H, .slice s.Main.Cells.A s.Main.Cells.n s.Main.Cells.c, i64 s.Alt.W, i64 s.Alt.H, .slice s.Alt.Cells.A s.Alt.Cells.n s.Alt.Cells.c, .bool s.OnAlt, i64 s.X, i64 s.Y, .bool s.Wrap, i64 s.A.Fg, i64 s.A.Bg, .bool s.A.Bold, .bool s.A.Under, .bool s.A.Turn, i64 s.Top, i64 s.Bot, .bool s.NoWrap, .bool s.Hide, i64 s.SaveX, i64 s.SaveY, i64 s.SaveA.Fg, i64 s.SaveA.Bg, .bool s.SaveA.Bold, .bool s.SaveA.Under, .bool s.SaveA.Turn, .slice s.Tabs.A s.Tabs.n s.Tabs.c, i64 s.Limit, .slice s.Back.A s.Back.n s.Back.c]) 33 (0, 0))) (o_s : ownScrR s L_s) (h_s : Hh w L_s) (hd_ : (b_s :: L_s.map (·.1)).Nodup) (hwh : (1 ≤ s.W ∧ s.W ≤ 120) ∧ 1 ≤ s.H ∧ s.H ≤ 120) :
    Calls Tryz.prog 225 #[.pointer (some ⟨b_s, 0, none⟩), i64 x, i64 y] w fun e w' => ∃ r L1, e = .returned (.tuple #[]) ∧ St w (b_s :: L_s.map (·.1)) ([(b_s, Obj.cells (List.toArray [i64 r.W, i64 r.H, i64 r.Main.W, i64 r.Main.H, .slice r.Main.Cells.A r.Main.Cells.n r.Main.Cells.c, i64 r.Alt.W, i64 r.Alt.H, .slice r.Alt.Cells.A r.Alt.Cells.n r.Alt.Cells.c, .bool r.OnAlt, i64 r.X, i64 r.Y, .bool r.Wrap, i64 r.A.Fg, i64 r.A.Bg, .bool r.A.Bold, .bool r.A.Under, .bool r.A.Turn, i64 r.Top, i64 r.Bot, .bool r.NoWrap, .bool r.Hide, i64 r.SaveX, i64 r.SaveY, i64 r.SaveA.Fg, i64 r.SaveA.Bg, .bool r.SaveA.Bold, .bool r.SaveA.Under, .bool r.SaveA.Turn, .slice r.Tabs.A r.Tabs.n r.Tabs.c, i64 r.Limit, .slice r.Back.A r.Back.n r.Back.c]) 33 (0, 0))] ++ L1) w' ∧ ownScrR r L1 ∧ r.dat = moveD s.dat x y := by
 refine enter 31 Tryz.func225 rfl Tryz.ntmps225 rfl rfl ?_
 have hs1 := St.takeP w b_s _ L_s hb_s h_s hd_
 refine WC.rG 21 hs1.d1 hs1 hs1 (fun _ hs2 => ?_)
 refine WG.rn [0, 1, 2, 3, 4, 5, 6, 7, 8, 9, 10, 11, 12, 13, 14, 15, 16, 17, 18, 19, 20] hs2 [0, 0] rfl rfl (WG.oK rfl (WL.st tbk hs2 0 rfl rfl (fun _ hs3 => WL.nil ⟨hs3.d1, WH.rn [22, 23] hs3.d1 [] rfl rfl (WH.o1 24 rfl (WL.st tbk hs3 0 rfl rfl (fun _ hs4 => WL.nil ⟨hs4.d1, ?_⟩)))⟩)))
 refine WH.rn [25, 26] hs4.d1 [] rfl rfl (WH.o1 27 rfl (WL.st tbk hs4 0 rfl rfl (fun _ hs5 => WL.nil ⟨hs5.d1, WH.dn (retK0 rfl ?_)⟩)))
 obtain ⟨L6, L7, L8, L9, hs14, ho10, ho11, ho12, ho13⟩ := ownScrR.op hs5 o_s
 have hs15 := (hs14.fb b_s)
 obtain ⟨L17, hs16, ho18⟩ := ownScrR.fl hs15 ho10 ho11 ho12 ho13
 have hs19 := (hs16.fb b_s)
 refine ownScrR.retp rfl ((hs19.fr L17).fb b_s) ho18 ?_
 · rfl
theorem k82_ (b_s : Nat) (s : ScrR) (L_s : Hp) (n : Int) (m : Int) (b : Int) (w : World) (hb_s : w.heap[b_s]? = some (Obj.cells (List.toArray [i64 s.W, i64 s.H, i64 s.Main.W, i64 s.Main.H, .slice s.Main.Cells.A s.Main.Cells.n s.Main.Cells.c, i64 s.Alt.W, i64 s.Alt.H, .slice s.Alt.Cells.A s.Alt.Cells.n s.Alt.Cells.c, .bool s.OnAlt, i64 s.X, i64 s.Y, .bool s.Wrap, i64 s.A.Fg, i64 s.A.Bg, .bool s.A.Bold, .bool s.A.Under, .bool s.A.Turn, i64 s.Top, i64 s.Bot, .bool s.NoWrap, .bool s.Hide, i64 s.SaveX, i64 s.SaveY, i64 s.SaveA.Fg, i64 s.SaveA.Bg, .bool s.SaveA.Bold, .bool s.SaveA.Under, .bool s.SaveA.Turn, .slice s.Tabs.A s.Tabs.n s.Tabs.c, i64 s.Limit, .slice s.Back.A s.Back.n s.Back.c]) 33 (0, 0))) (o_s : ownScrR s L_s) (h_s : Hh w L_s) (hd_ : (b_s :: L_s.map (·.1)).Nodup) (hf : ScrFine s.dat) (hn : 0 ≤ n ∧ n ≤ 9999) (hm : 0 ≤ m ∧ m ≤ 9999) :
    Calls Tryz.prog 234 #[.pointer (some ⟨b_s, 0, none⟩), i64 n, i64 m, i64 b] w fun e w' => ∃ r L1, e = .returned (.bool (isMove b)) ∧ St w (b_s :: L_s.map (·.1)) ([(b_s, Obj.cells (List.toArray [i64 r.W, i64 r.H, i64 r.Main.W, i64 r.Main.H, .slice r.Main.Cells.A r.Main.Cells.n r.Main.Cells.c, i64 r.Alt.W, i64 r.Alt.H, .slice r.Alt.Cells.A r.Alt.Cells.n r.Alt.Cells.c, .bool r.OnAlt, i64 r.X, i64 r.Y, .bool r.Wrap, i64 r.A.Fg, i64 r.A.Bg, .bool r.A.Bold, .bool r.A.Under, .bool r.A.Turn, i64 r.Top, i64 r.Bot, .bool r.NoWrap, .bool r.Hide, i64 r.SaveX, i64 r.SaveY, i64 r.SaveA.Fg, i64 r.SaveA.Bg, .bool r.SaveA.Bold, .bool r.SaveA.Under, .bool r.SaveA.Turn, .slice r.Tabs.A r.Tabs.n r.Tabs.c, i64 r.Limit, .slice r.Back.A r.Back.n r.Back.c]) 33 (0, 0))] ++ L1) w' ∧ ownScrR r L1 ∧ r.dat = moveByD s.dat n m b := by
 have hwh : (1 ≤ s.W ∧ s.W ≤ 120) ∧ 1 ≤ s.H ∧ s.H ≤ 120 := ⟨(isSize_bnd hf.size).1, (isSize_bnd hf.size).2.1⟩
 have hxy := hf.pos
 simp only [ScrR.dat, GridR.dat] at hxy
 refine enter 95 Tryz.func234 rfl Tryz.ntmps234 rfl rfl ?_
 have hs1 := St.takeP w b_s _ L_s hb_s h_s hd_
 refine WC.r1 hs1 [] rfl (WC.seq (fun K2 hK2 => WC.r1 hs1 [] rfl (WC.block (WC.r1 hs1 [] rfl ?_))))
 refine WC.cq rfl (fun h3 qh3 => ?_) (fun h3 qh3 => ?_)
 ·have e65 : b = 65 := by have h9 := h3; simpa using h9
  refine WC.rG 11 (hs1.d1.rm L_s) hs1 hs1 (fun _ hs4 => ?_)
  refine WG.rn [0, 1, 2, 3, 4, 5, 6, 7, 8, 9, 10] hs4 [0, 0] rfl rfl (WG.oK rfl ?_)
  have hF5 := ((hs4.fr L_s).fb b_s)
  refine WL.cl Tryz.call225 rfl (k81_ _ s _ _ _ _ (St.headP hF5) o_s (St.ownP hF5) (St.nodupP hF5) ?_) ?_
  · first | assumption | rfl | omega
  rintro _ whs6 ⟨r7, L8, rfl, hs6, ho9, hd10⟩
  replace hs6 := St.lendP hF5 hs6
  refine ⟨_, rfl, WL.nil ⟨(hs6.d1.rm L8), WH.dn (hK2 _ _ (WC.r1 hs6 [] rfl (WC.ret (retV1 rfl (resV.tmp rfl) ?_))))⟩⟩
  have hmv : isMove b = true := by unfold isMove; rw [decide_eq_true_eq]; omega
  refine ⟨r7, _, (by rw [hmv]), St.keepP (L1 := L8) ((hs6.fr L8).fb b_s), ho9, ?_⟩
  · unfold moveByD; rw [if_pos e65]; exact hd10
 have e65 : ¬ b = 65 := by have h9 := h3; simpa using h9
 refine WC.r1 hs1 [] rfl (WC.cq rfl (fun h11 qh11 => ?_) (fun h11 qh11 => ?_))
 ·have e66 : b = 66 := by have h9 := h11; simpa using h9
  refine WC.rG 11 (hs1.d1.rm L_s) hs1 hs1 (fun _ hs12 => ?_)
  refine WG.rn [0, 1, 2, 3, 4, 5, 6, 7, 8, 9, 10] hs12 [0, 0] rfl rfl (WG.oK rfl ?_)
  have hF13 := ((hs12.fr L_s).fb b_s)
  refine WL.cl Tryz.call225 rfl (k81_ _ s _ _ _ _ (St.headP hF13) o_s (St.ownP hF13) (St.nodupP hF13) ?_) ?_
  · first | assumption | rfl | omega
  rintro _ whs14 ⟨r15, L16, rfl, hs14, ho17, hd18⟩
  replace hs14 := St.lendP hF13 hs14
  refine ⟨_, rfl, WL.nil ⟨(hs14.d1.rm L16), WH.dn (hK2 _ _ (WC.r1 hs14 [] rfl (WC.ret (retV1 rfl (resV.tmp rfl) ?_))))⟩⟩
  have hmv : isMove b = true := by unfold isMove; rw [decide_eq_true_eq]; omega
  refine ⟨r15, _, (by rw [hmv]), St.keepP (L1 := L16) ((hs14.fr L16).fb b_s), ho17, ?_⟩
  · unfold moveByD; rw [if_neg e65, if_pos e66]; exact hd18
 have e66 : ¬ b = 66 := by have h9 := h11; simpa using h9
 refine WC.r1 hs1 [] rfl (WC.cq rfl (fun h19 qh19 => ?_) (fun h19 qh19 => ?_))
 ·have e67 : b = 67 := by have h9 := h19; simpa using h9
  refine WC.rG 11 (hs1.d1.rm L_s) hs1 hs1 (fun _ hs20 => ?_)
  refine WG.rn [0, 1, 2, 3, 4, 5, 6, 7, 8, 9, 10] hs20 [0, 0] rfl rfl (WG.oK rfl ?_)
  have hF21 := ((hs20.fr L_s).fb b_s)
  refine WL.cl Tryz.call225 rfl (k81_ _ s _ _ _ _ (St.headP hF21) o_s (St.ownP hF21) (St.nodupP hF21) ?_) ?_
  · first | assumption | rfl | omega
  rintro _ whs22 ⟨r23, L24, rfl, hs22, ho25, hd26⟩
  replace hs22 := St.lendP hF21 hs22
  refine ⟨_, rfl, WL.nil ⟨(hs22.d1.rm L24), WH.dn (hK2 _ _ (WC.r1 hs22 [] rfl (WC.ret (retV1 rfl (resV.tmp rfl) ?_))))⟩⟩
  have hmv : isMove b = true := by unfold isMove; rw [decide_eq_true_eq]; omega
  refine ⟨r23, _, (by rw [hmv]), St.keepP (L1 := L24) ((hs22.fr L24).fb b_s), ho25, ?_⟩
  · unfold moveByD; rw [if_neg e65, if_neg e66, if_pos e67]; exact hd26
 have e67 : ¬ b = 67 := by have h9 := h19; simpa using h9
 refine WC.r1 hs1 [] rfl (WC.cq rfl (fun h27 qh27 => ?_) (fun h27 qh27 => ?_))
 ·have e68 : b = 68 := by have h9 := h27; simpa using h9
  refine WC.rG 11 (hs1.d1.rm L_s) hs1 hs1 (fun _ hs28 => ?_)
  refine WG.rn [0, 1, 2, 3, 4, 5, 6, 7, 8, 9, 10] hs28 [0, 0] rfl rfl (WG.oK rfl ?_)
  have hF29 := ((hs28.fr L_s).fb b_s)
  refine WL.cl Tryz.call225 rfl (k81_ _ s _ _ _ _ (St.headP hF29) o_s (St.ownP hF29) (St.nodupP hF29) ?_) ?_
  · first | assumption | rfl | omega
  rintro _ whs30 ⟨r31, L32, rfl, hs30, ho33, hd34⟩
  replace hs30 := St.lendP hF29 hs30
  refine ⟨_, rfl, WL.nil ⟨(hs30.d1.rm L32), WH.dn (hK2 _ _ (WC.r1 hs30 [] rfl (WC.ret (retV1 rfl (resV.tmp rfl) ?_))))⟩⟩
  have hmv : isMove b = true := by unfold isMove; rw [decide_eq_true_eq]; omega
  refine ⟨r31, _, (by rw [hmv]), St.keepP (L1 := L32) ((hs30.fr L32).fb b_s), ho33, ?_⟩
  · unfold moveByD; rw [if_neg e65, if_neg e66, if_neg e67, if_pos e68]; exact hd34
 have e68 : ¬ b = 68 := by have h9 := h27; simpa using h9
 refine WC.r1 hs1 [] rfl (WC.cq rfl (fun h35 qh35 => ?_) (fun h35 qh35 => ?_))
 ·have e71 : b = 71 := by have h9 := h35; simpa using h9
  refine WC.region (WL.r 7 hs1 [0] rfl ?_)
  have hF36 := ((hs1.fr L_s).fb b_s)
  refine WL.cl Tryz.call225 rfl (k81_ _ s _ _ _ _ (St.headP hF36) o_s (St.ownP hF36) (St.nodupP hF36) ?_) ?_
  · first | assumption | rfl | omega
  rintro _ whs37 ⟨r38, L39, rfl, hs37, ho40, hd41⟩
  replace hs37 := St.lendP hF36 hs37
  refine ⟨_, rfl, WL.nil (hK2 _ _ (WC.r1 hs37 [] rfl (WC.ret (retV1 rfl (resV.tmp rfl) ?_))))⟩
  have hmv : isMove b = true := by unfold isMove; rw [decide_eq_true_eq]; omega
  refine ⟨r38, _, (by rw [hmv]), St.keepP (L1 := L39) ((hs37.fr L39).fb b_s), ho40, ?_⟩
  · unfold moveByD; rw [if_neg e65, if_neg e66, if_neg e67, if_neg e68, if_pos e71]; exact hd41
 have e71 : ¬ b = 71 := by have h9 := h35; simpa using h9
 refine WC.r1 hs1 [] rfl (WC.cq rfl (fun h42 qh42 => ?_) (fun h42 qh42 => ?_))
 ·have e100 : b = 100 := by have h9 := h42; simpa using h9
  refine WC.region (WL.r 7 hs1 [0] rfl ?_)
  have hF43 := ((hs1.fr L_s).fb b_s)
  refine WL.cl Tryz.call225 rfl (k81_ _ s _ _ _ _ (St.headP hF43) o_s (St.ownP hF43) (St.nodupP hF43) ?_) ?_
  · first | assumption | rfl | omega
  rintro _ whs44 ⟨r45, L46, rfl, hs44, ho47, hd48⟩
  replace hs44 := St.lendP hF43 hs44
  refine ⟨_, rfl, WL.nil (hK2 _ _ (WC.r1 hs44 [] rfl (WC.ret (retV1 rfl (resV.tmp rfl) ?_))))⟩
  have hmv : isMove b = true := by unfold isMove; rw [decide_eq_true_eq]; omega
  refine ⟨r45, _, (by rw [hmv]), St.keepP (L1 := L46) ((hs44.fr L46).fb b_s), ho47, ?_⟩
  · unfold moveByD; rw [if_neg e65, if_neg e66, if_neg e67, if_neg e68, if_neg e71, if_pos e100]; exact hd48
 have e100 : ¬ b = 100 := by have h9 := h42; simpa using h9
 refine WC.seq (fun K49 hK49 => WC.r1 hs1 [] rfl ?_)
 refine WC.cq rfl (fun h50 qh50 => ?_) (fun h50 qh50 => ?_)
 ·have e72 : b = 72 := by have h9 := h50; simpa using h9
  refine WC.skip (hK49 _ _ (WC.condT rfl h50 (WC.region (WL.r 5 hs1 [] rfl ?_))))
  have hF52 := ((hs1.fr L_s).fb b_s)
  refine WL.cl Tryz.call225 rfl (k81_ _ s _ _ _ _ (St.headP hF52) o_s (St.ownP hF52) (St.nodupP hF52) ?_) ?_
  · first | assumption | rfl | omega
  rintro _ whs53 ⟨r54, L55, rfl, hs53, ho56, hd57⟩
  replace hs53 := St.lendP hF52 hs53
  refine ⟨_, rfl, WL.nil (hK2 _ _ (WC.r1 hs53 [] rfl (WC.ret (retV1 rfl (resV.tmp rfl) ?_))))⟩
  have hmv : isMove b = true := by unfold isMove; rw [decide_eq_true_eq]; omega
  refine ⟨r54, _, (by rw [hmv]), St.keepP (L1 := L55) ((hs53.fr L55).fb b_s), ho56, ?_⟩
  · unfold moveByD; rw [if_neg e65, if_neg e66, if_neg e67, if_neg e68, if_neg e71, if_neg e100, if_pos (show b = 72 ∨ b = 102 by omega)]; exact hd57
 have e72 : ¬ b = 72 := by have h9 := h50; simpa using h9
 refine WC.region (WL.r 2 hs1 [] rfl (WL.nil (hK49 _ _ ?_)))
 refine WC.cq rfl (fun h58 qh58 => ?_) (fun h58 qh58 => ?_)
 ·have e102 : b = 102 := by have h9 := h58; simpa using h9
  refine WC.region (WL.r 5 hs1 [] rfl ?_)
  have hF59 := ((hs1.fr L_s).fb b_s)
  refine WL.cl Tryz.call225 rfl (k81_ _ s _ _ _ _ (St.headP hF59) o_s (St.ownP hF59) (St.nodupP hF59) ?_) ?_
  · first | assumption | rfl | omega
  rintro _ whs60 ⟨r61, L62, rfl, hs60, ho63, hd64⟩
  replace hs60 := St.lendP hF59 hs60
  refine ⟨_, rfl, WL.nil (hK2 _ _ (WC.r1 hs60 [] rfl (WC.ret (retV1 rfl (resV.tmp rfl) ?_))))⟩
  have hmv : isMove b = true := by unfold isMove; rw [decide_eq_true_eq]; omega
  refine ⟨r61, _, (by rw [hmv]), St.keepP (L1 := L62) ((hs60.fr L62).fb b_s), ho63, ?_⟩
  · unfold moveByD; rw [if_neg e65, if_neg e66, if_neg e67, if_neg e68, if_neg e71, if_neg e100, if_pos (show b = 72 ∨ b = 102 by omega)]; exact hd64
 have e102 : ¬ b = 102 := by have h9 := h58; simpa using h9
 refine WC.r1 hs1 [] rfl (WC.ret (ibR (tkR ?_)))
 clear hK2
 refine retV1 rfl (resV.tmp rfl) ?_
 have hmv : isMove b = false := by unfold isMove; rw [decide_eq_false_iff_not]; omega
 refine ⟨s, _, (by rw [hmv]), St.keepP (L1 := L_s) ((hs1.fr L_s).fb b_s), o_s, ?_⟩
 · unfold moveByD; rw [if_neg e65, if_neg e66, if_neg e67, if_neg e68, if_neg e71, if_neg e100, if_neg (show ¬ (b = 72 ∨ b = 102) by omega)]
theorem k83_ (b_s : Nat) (s : ScrR) (L_s : Hp) (A_l : Option Addr) (n_l c_l : Nat) (l : List Int) (n : Int) (w : World) (hb_s : w.heap[b_s]? = some (Obj.cells (List.toArray [i64 s.W, i64 s.H, i64 s.Main.W, i64 s.Main.H, .slice s.Main.Cells.A s.Main.Cells.n s.Main.Cells.c, i64 s.Alt.W, i64 s.Alt.H, .slice s.Alt.Cells.A s.Alt.Cells.n s.Alt.Cells.c, .bool s.OnAlt, i64 s.X, i64 s.Y, .bool s.Wrap, i64 s.A.Fg, i64 s.A.Bg, .bool s.A.Bold, .bool s.A.Under, .bool s.A.Turn, i64 s.Top, i64 s.Bot, .bool s.NoWrap, .bool s.Hide, i64 s.SaveX, i64 s.SaveY, i64 s.SaveA.Fg, i64 s.SaveA.Bg, .bool s.SaveA.Bold, .bool s.SaveA.Under, .bool s.SaveA.Turn, .slice s.Tabs.A s.Tabs.n s.Tabs.c, i64 s.Limit, .slice s.Back.A s.Back.n s.Back.c]) 33 (0, 0))) (o_s : ownScrR s L_s) (h_s : Hh w L_s) (f_l : SlF encI w A_l n_l l) (hd_ : (b_s :: L_s.map (·.1)).Nodup) (s_l : 0 < n_l → (adr A_l).block ∉ (b_s :: L_s.map (·.1))) (hf : ScrFine s.dat) (hna : n = argI l 0 1) (hl : areArgs l = true) (hll : n_l ≤ 549755813888) :
    Calls Tryz.prog 239 #[.pointer (some ⟨b_s, 0, none⟩), .slice A_l n_l c_l, i64 n] w fun e w' => ∃ r L1, e = .returned (.tuple #[]) ∧ St w (b_s :: L_s.map (·.1)) ([(b_s, Obj.cells (List.toArray [i64 r.W, i64 r.H, i64 r.Main.W, i64 r.Main.H, .slice r.Main.Cells.A r.Main.Cells.n r.Main.Cells.c, i64 r.Alt.W, i64 r.Alt.H, .slice r.Alt.Cells.A r.Alt.Cells.n r.Alt.Cells.c, .bool r.OnAlt, i64 r.X, i64 r.Y, .bool r.Wrap, i64 r.A.Fg, i64 r.A.Bg, .bool r.A.Bold, .bool r.A.Under, .bool r.A.Turn, i64 r.Top, i64 r.Bot, .bool r.NoWrap, .bool r.Hide, i64 r.SaveX, i64 r.SaveY, i64 r.SaveA.Fg, i64 r.SaveA.Bg, .bool r.SaveA.Bold, .bool r.SaveA.Under, .bool r.SaveA.Turn, .slice r.Tabs.A r.Tabs.n r.Tabs.c, i64 r.Limit, .slice r.Back.A r.Back.n r.Back.c]) 33 (0, 0))] ++ L1) w' ∧ ownScrR r L1 ∧ r.dat = regionD s.dat l := by
 have hwh : (1 ≤ s.W ∧ s.W ≤ 120) ∧ 1 ≤ s.H ∧ s.H ≤ 120 := ⟨(isSize_bnd hf.size).1, (isSize_bnd hf.size).2.1⟩
 have hxy := hf.pos
 simp only [ScrR.dat, GridR.dat] at hxy
 have ha0 := argI_bnd (k := 0) (d := 1) hl (by omega)
 have ha1 : 0 ≤ argI l 1 s.H ∧ argI l 1 s.H ≤ 9999 := argI_bnd hl (by omega)
 refine enter 38 Tryz.func239 rfl Tryz.ntmps239 rfl rfl ?_
 have hs1 := St.takeP w b_s _ L_s hb_s h_s hd_
 refine WC.sr (WL.r 7 hs1 [0] rfl (WL.cl Tryz.call233 rfl (k80_ _ _ _ _ _ _ (SlF.st f_l hs1 s_l) ?_) ?_))
 · first | assumption | rfl | omega
 rintro _ whs2 ⟨rfl, hs2⟩
 replace hs2 := hs1.call0 hs2
 refine ⟨_, rfl, WL.r 3 hs2 [] rfl (WL.nil (WC.sr (WL.r 4 hs2 [] rfl (WL.pA tbk 6 Acts.nil hs2 [0] rfl rfl rfl rfl (fun g_ => ⟨rfl, trivial⟩) (WL.nil (WC.cq rfl (fun h3 qh3 => ?_) (fun h3 qh3 => ?_)))))))⟩
 ·have hr : n - 1 < argI l 1 s.H - 1 ∧ argI l 1 s.H - 1 < s.H := by have h9 := h3; simp at h9; omega
  refine WC.sr (WL.r 6 hs2 [] rfl (WL.st tbk hs2 0 rfl rfl (fun _ hs4 => WL.r 2 hs4 [] rfl (WL.st tbk hs4 0 rfl rfl (fun _ hs5 => WL.nil (WC.region (WL.r 1 hs5 [] rfl ?_)))))))
  obtain ⟨L6, L7, L8, L9, hs14, ho10, ho11, ho12, ho13⟩ := ownScrR.op hs5 o_s
  have hs15 := (hs14.fb b_s)
  obtain ⟨L17, hs16, ho18⟩ := ownScrR.fl hs15 ho10 ho11 ho12 ho13
  have hs19 := (hs16.fb b_s)
  have hF20 := ((hs19.fr L17).fb b_s)
  refine WL.cl Tryz.call225 rfl (k81_ _ ⟨s.W, s.H, ⟨s.Main.W, s.Main.H, SlD.of ho10⟩, ⟨s.Alt.W, s.Alt.H, SlD.of ho11⟩, s.OnAlt, s.X, s.Y, s.Wrap, ⟨s.A.Fg, s.A.Bg, s.A.Bold, s.A.Under, s.A.Turn⟩, (n - (1)), _, s.NoWrap, s.Hide, s.SaveX, s.SaveY, ⟨s.SaveA.Fg, s.SaveA.Bg, s.SaveA.Bold, s.SaveA.Under, s.SaveA.Turn⟩, SlD.of ho12, s.Limit, SlD.ofN ho13⟩ _ _ _ _ (St.headP hF20) (by exact ho18) (St.ownP hF20) (St.nodupP hF20) ?_) ?_
  · first | assumption | rfl | omega
  rintro _ whs21 ⟨r22, L23, rfl, hs21, ho24, hd25⟩
  replace hs21 := St.lendP hF20 hs21
  refine ⟨_, rfl, WL.nil (retK0 rfl (⟨r22, _, rfl, St.keepP (L1 := L23) ((hs21.fr L23).fb b_s), ho24, ?_⟩))⟩
  · unfold regionD; rw [if_pos (show argI l 0 1 - 1 < argI l 1 s.dat.H - 1 ∧ argI l 1 s.dat.H - 1 < s.dat.H from hna ▸ hr), ← hna]; exact hd25
 have hr : ¬ (n - 1 < argI l 1 s.H - 1 ∧ argI l 1 s.H - 1 < s.H) := by rintro ⟨h7, h8⟩; have h9 := h3; simp at h9; have := h9 (by omega); omega
 refine WC.skip (retK0 rfl (⟨s, _, rfl, St.keepP (L1 := L_s) ((hs2.fr L_s).fb b_s), o_s, ?_⟩))
 · unfold regionD; rw [if_neg (show ¬ (argI l 0 1 - 1 < argI l 1 s.dat.H - 1 ∧ argI l 1 s.dat.H - 1 < s.dat.H) from hna ▸ hr)]
theorem k84_ (b_s : Nat) (s : ScrR) (L_s : Hp) (n : Int) (on : Bool) (w : World) (hb_s : w.heap[b_s]? = some (Obj.cells (List.toArray [i64 s.W, i64 s.H, i64 s.Main.W, i64 s.Main.H, .slice s.Main.Cells.A s.Main.Cells.n s.Main.Cells.c, i64 s.Alt.W, i64 s.Alt.H, .slice s.Alt.Cells.A s.Alt.Cells.n s.Alt.Cells.c, .bool s.OnAlt, i64 s.X, i64 s.Y, .bool s.Wrap, i64 s.A.Fg, i64 s.A.Bg, .bool s.A.Bold, .bool s.A.Under, .bool s.A.Turn, i64 s.Top, i64 s.Bot, .bool s.NoWrap, .bool s.Hide, i64 s.SaveX, i64 s.SaveY, i64 s.SaveA.Fg, i64 s.SaveA.Bg, .bool s.SaveA.Bold, .bool s.SaveA.Under, .bool s.SaveA.Turn, .slice s.Tabs.A s.Tabs.n s.Tabs.c, i64 s.Limit, .slice s.Back.A s.Back.n s.Back.c]) 33 (0, 0))) (o_s : ownScrR s L_s) (h_s : Hh w L_s) (hd_ : (b_s :: L_s.map (·.1)).Nodup) (hf : ScrFine s.dat) (hsmB : smScr 549755813888 s.dat) :
    Calls Tryz.prog 190 #[.pointer (some ⟨b_s, 0, none⟩), i64 n, .bool on] w fun e w' => ∃ r L1, e = .returned (.tuple #[]) ∧ St w (b_s :: L_s.map (·.1)) ([(b_s, Obj.cells (List.toArray [i64 r.W, i64 r.H, i64 r.Main.W, i64 r.Main.H, .slice r.Main.Cells.A r.Main.Cells.n r.Main.Cells.c, i64 r.Alt.W, i64 r.Alt.H, .slice r.Alt.Cells.A r.Alt.Cells.n r.Alt.Cells.c, .bool r.OnAlt, i64 r.X, i64 r.Y, .bool r.Wrap, i64 r.A.Fg, i64 r.A.Bg, .bool r.A.Bold, .bool r.A.Under, .bool r.A.Turn, i64 r.Top, i64 r.Bot, .bool r.NoWrap, .bool r.Hide, i64 r.SaveX, i64 r.SaveY, i64 r.SaveA.Fg, i64 r.SaveA.Bg, .bool r.SaveA.Bold, .bool r.SaveA.Under, .bool r.SaveA.Turn, .slice r.Tabs.A r.Tabs.n r.Tabs.c, i64 r.Limit, .slice r.Back.A r.Back.n r.Back.c]) 33 (0, 0))] ++ L1) w' ∧ ownScrR r L1 ∧ r.dat = modeD s.dat n on := by
 have hwh : (1 ≤ s.W ∧ s.W ≤ 120) ∧ 1 ≤ s.H ∧ s.H ≤ 120 := ⟨(isSize_bnd hf.size).1, (isSize_bnd hf.size).2.1⟩
 have hxy := hf.pos
 simp only [ScrR.dat, GridR.dat] at hxy
 have hsz : isSize s.W s.H = true := hf.size
 refine enter 80 Tryz.func190 rfl Tryz.ntmps190 rfl rfl ?_
 have hs1 := St.takeP w b_s _ L_s hb_s h_s hd_
 refine WC.block (WC.r1 hs1 [] rfl (WC.cq rfl (fun h2 qh2 => ?_) (fun h2 qh2 => ?_)))
 ·have e7 : n = 7 := by have h9 := h2; simpa using h9
  refine WC.region (WL.r 9 hs1 [0] rfl (WL.pA tbk 1 Acts.nil hs1 [] rfl rfl rfl rfl (fun g_ => trivial) (WL.r 2 hs1 [] rfl (WL.st tbk hs1 0 rfl rfl (fun _ hs3 => WL.r 2 hs3 [] rfl (WL.st tbk hs3 0 rfl rfl (fun _ hs4 => WL.nil ?_)))))))
  refine ibN (retK0 rfl ?_)
  obtain ⟨L5, L6, L7, L8, hs13, ho9, ho10, ho11, ho12⟩ := ownScrR.op hs4 o_s
  have hs14 := (hs13.fb b_s)
  obtain ⟨L16, hs15, ho17⟩ := ownScrR.fl hs14 ho9 ho10 ho11 ho12
  have hs18 := (hs15.fb b_s)
  refine ownScrR.retp rfl ((hs18.fr L16).fb b_s) ho17 ?_
  · unfold modeD; rw [if_pos e7]; rfl
 have e7 : ¬ n = 7 := by have h9 := h2; simpa using h9
 refine WC.r1 hs1 [] rfl (WC.cq rfl (fun h19 qh19 => ?_) (fun h19 qh19 => ?_))
 ·have e25 : n = 25 := by have h9 := h19; simpa using h9
  refine WC.region (WL.r 5 hs1 [] rfl (WL.st tbk hs1 0 rfl rfl (fun _ hs20 => WL.nil (ibN (retK0 rfl ?_)))))
  obtain ⟨L21, L22, L23, L24, hs29, ho25, ho26, ho27, ho28⟩ := ownScrR.op hs20 o_s
  have hs30 := (hs29.fb b_s)
  obtain ⟨L32, hs31, ho33⟩ := ownScrR.fl hs30 ho25 ho26 ho27 ho28
  have hs34 := (hs31.fb b_s)
  refine ownScrR.retp rfl ((hs34.fr L32).fb b_s) ho33 ?_
  · unfold modeD; rw [if_neg e7, if_pos e25]; rfl
 have e25 : ¬ n = 25 := by have h9 := h19; simpa using h9
 refine WC.sr (WL.r 3 hs1 [] rfl (WL.pA tbk 1 Acts.nil hs1 [] rfl rfl rfl rfl (fun g_ => trivial) (WL.r 1 hs1 [] rfl (WL.pA tbk 5 Acts.nil hs1 [0] rfl rfl rfl rfl (fun g_ => ⟨rfl, trivial⟩) (WL.r 1 hs1 [] rfl (WL.nil (WC.cq rfl (fun h35 qh35 => ?_) (fun h35 qh35 => ?_))))))))
 ·have a1 : (n = 1049 ∧ on = true) ∧ s.dat.OnAlt = false := by show (n = 1049 ∧ on = true) ∧ s.OnAlt = false; have h9 := h35; simp at h9; first | exact h9 | exact ⟨⟨h9.1.1, h9.1.2⟩, h9.2⟩ | exact ⟨⟨h9.1, h9.2.1⟩, h9.2.2⟩
  refine WC.sr (WL.r 1 hs1 [] rfl ?_)
  have hF36 := ((hs1.fr L_s).fb b_s)
  refine WL.cl Tryz.call153 rfl (k62_ _ s _ _ (St.headP hF36) o_s (St.ownP hF36) (St.nodupP hF36) ?_) ?_
  · first | assumption | rfl | omega
  rintro _ whs37 ⟨r38, L39, rfl, hs37, ho40, hd41⟩
  replace hs37 := St.lendP hF36 hs37
  refine ⟨_, rfl, ?_⟩
  have hrW : r38.W = s.W := congrArg ScrD.W hd41
  have hrH : r38.H = s.H := congrArg ScrD.H hd41
  have hszr : isSize r38.W r38.H = true := by rw [hrW, hrH]; exact hsz
  refine WL.nil (WC.rG 13 hs37.d1 hs37 hs37 (fun _ hs42 => ?_))
  refine WG.rn [0, 1, 2, 3, 4, 5, 6, 7, 8, 9] hs42 [0, 0] rfl rfl (WG.o1 10 rfl rfl (WL.cl Tryz.call215 rfl (k19_ _ _ _ ?_) ?_))
  · first | assumption | rfl | omega
  rintro _ whs43 ⟨r44, L1_45, rfl, hs43, ho46, hd47⟩
  replace hs43 := hs42.callF hs43
  refine ⟨_, rfl, ?_⟩
  replace hs43 := St.back [_] hs43
  refine WL.nil ⟨(hs43.rm L1_45), WG.rn [11, 12] (hs43.rm L1_45) [] rfl rfl (WG.oK rfl (WL.st tbk hs43 0 rfl rfl (fun _ hs48 => WL.nil ⟨(hs48.d1.rm L1_45), WH.rn [14, 15] (hs48.d1.rm L1_45) [] rfl rfl (WH.o1 16 rfl (WL.st tbk hs48 0 rfl rfl (fun _ hs49 => ?_)))⟩)))⟩
  refine WL.nil ⟨(hs49.d1.rm L1_45), WH.dn (ibN (retK0 rfl ?_))⟩
  obtain ⟨L50, L51, L52, L53, hs58, ho54, ho55, ho56, ho57⟩ := ownScrR.op hs49 ho40
  have hs59 := (hs58.fb b_s)
  obtain ⟨L61, hs60, ho62⟩ := ownScrR.fl hs59 ho54 ho46 ho56 ho57
  have hs63 := (hs60.fb b_s)
  refine ownScrR.retp rfl ((hs63.fr L61).fb b_s) ho62 ?_
  · unfold modeD; rw [if_neg e7, if_neg e25, if_pos a1]; show _ = ({ saveD s.dat with Alt := gridNew s.W s.H, OnAlt := true } : ScrD); rw [← hrW, ← hrH, ← hd47, ← hd41]; rfl
 have a1 : ¬ ((n = 1049 ∧ on = true) ∧ s.dat.OnAlt = false) := by show ¬ ((n = 1049 ∧ on = true) ∧ s.OnAlt = false); rintro ⟨⟨h1, h2⟩, h3⟩; have h9 := h35; simp [h1, h2, h3] at h9
 refine WC.sr (WL.r 3 hs1 [] rfl (WL.pA tbk 2 Acts.nil hs1 [] rfl rfl rfl rfl (fun g_ => trivial) (WL.r 1 hs1 [] rfl (WL.pA tbk 4 Acts.nil hs1 [0] rfl rfl rfl rfl (fun g_ => ⟨rfl, trivial⟩) (WL.r 1 hs1 [] rfl (WL.nil (WC.cq rfl (fun h64 qh64 => ?_) (fun h64 qh64 => ?_))))))))
 ·have a2 : (n = 1049 ∧ on = false) ∧ s.dat.OnAlt = true := by show (n = 1049 ∧ on = false) ∧ s.OnAlt = true; have h9 := h64; simp at h9; first | exact h9 | exact ⟨⟨h9.1.1, h9.1.2⟩, h9.2⟩ | exact ⟨⟨h9.1, h9.2.1⟩, h9.2.2⟩
  refine WC.sr (WL.r 3 hs1 [] rfl (WL.st tbk hs1 0 rfl rfl (fun _ hs65 => WL.nil (WC.region (WL.r 1 hs65 [] rfl ?_)))))
  obtain ⟨L66, L67, L68, L69, hs74, ho70, ho71, ho72, ho73⟩ := ownScrR.op hs65 o_s
  have hs75 := (hs74.fb b_s)
  obtain ⟨L77, hs76, ho78⟩ := ownScrR.fl hs75 ho70 ho71 ho72 ho73
  have hs79 := (hs76.fb b_s)
  have hF80 := ((hs79.fr L77).fb b_s)
  refine WL.cl Tryz.call154 rfl (k63_ _ ⟨s.W, s.H, ⟨s.Main.W, s.Main.H, SlD.of ho70⟩, ⟨s.Alt.W, s.Alt.H, SlD.of ho71⟩, false, s.X, s.Y, s.Wrap, ⟨s.A.Fg, s.A.Bg, s.A.Bold, s.A.Under, s.A.Turn⟩, s.Top, s.Bot, s.NoWrap, s.Hide, s.SaveX, s.SaveY, ⟨s.SaveA.Fg, s.SaveA.Bg, s.SaveA.Bold, s.SaveA.Under, s.SaveA.Turn⟩, SlD.of ho72, s.Limit, SlD.ofN ho73⟩ _ _ (St.headP hF80) (by exact ho78) (St.ownP hF80) (St.nodupP hF80) ?_) ?_
  · first | assumption | rfl | omega
  rintro _ whs81 ⟨r82, L83, rfl, hs81, ho84, hd85⟩
  replace hs81 := St.lendP hF80 hs81
  refine ⟨_, rfl, WL.nil (ibN (retK0 rfl (⟨r82, _, rfl, St.keepP (L1 := L83) ((hs81.fr L83).fb b_s), ho84, ?_⟩)))⟩
  · unfold modeD; rw [if_neg e7, if_neg e25, if_neg a1, if_pos a2]; exact hd85
 have a2 : ¬ ((n = 1049 ∧ on = false) ∧ s.dat.OnAlt = true) := by show ¬ ((n = 1049 ∧ on = false) ∧ s.OnAlt = true); rintro ⟨⟨h1, h2⟩, h3⟩; have h9 := h64; simp [h1, h2, h3] at h9
 refine WC.skip (ibN (retK0 rfl (⟨s, _, rfl, St.keepP (L1 := L_s) ((hs1.fr L_s).fb b_s), o_s, ?_⟩)))
 · unfold modeD; rw [if_neg e7, if_neg e25, if_neg a1, if_neg a2]
theorem k85_ (b_p b_s : Nat) (s : ScrR) (m : Int) (w : World) (hp : w.heap[b_p]? = some (Obj.cells (List.toArray [.pointer (some ⟨b_s, 0, none⟩)]) 115 (0, 0))) (hq : w.heap[b_s]? = some (Obj.cells (List.toArray [i64 s.W, i64 s.H, i64 s.Main.W, i64 s.Main.H, .slice s.Main.Cells.A s.Main.Cells.n s.Main.Cells.c, i64 s.Alt.W, i64 s.Alt.H, .slice s.Alt.Cells.A s.Alt.Cells.n s.Alt.Cells.c, .bool s.OnAlt, i64 s.X, i64 s.Y, .bool s.Wrap, i64 s.A.Fg, i64 s.A.Bg, .bool s.A.Bold, .bool s.A.Under, .bool s.A.Turn, i64 s.Top, i64 s.Bot, .bool s.NoWrap, .bool s.Hide, i64 s.SaveX, i64 s.SaveY, i64 s.SaveA.Fg, i64 s.SaveA.Bg, .bool s.SaveA.Bold, .bool s.SaveA.Under, .bool s.SaveA.Turn, .slice s.Tabs.A s.Tabs.n s.Tabs.c, i64 s.Limit, .slice s.Back.A s.Back.n s.Back.c]) 33 (0, 0))) (hne : b_p ≠ b_s) :
    Calls Tryz.prog 241 #[i64 m, .pointer (some ⟨b_p, 0, none⟩)] w fun e w' => e = .returned (.bool (decide (m = s.X))) ∧ St w [] [] w' := by
 refine enter 10 Tryz.func241 rfl Tryz.ntmps241 rfl rfl ?_
 have hs1 := St.take w [(b_p, Obj.cells (List.toArray [.pointer (some ⟨b_s, 0, none⟩)]) 115 (0, 0)), (b_s, Obj.cells (List.toArray [i64 s.W, i64 s.H, i64 s.Main.W, i64 s.Main.H, .slice s.Main.Cells.A s.Main.Cells.n s.Main.Cells.c, i64 s.Alt.W, i64 s.Alt.H, .slice s.Alt.Cells.A s.Alt.Cells.n s.Alt.Cells.c, .bool s.OnAlt, i64 s.X, i64 s.Y, .bool s.Wrap, i64 s.A.Fg, i64 s.A.Bg, .bool s.A.Bold, .bool s.A.Under, .bool s.A.Turn, i64 s.Top, i64 s.Bot, .bool s.NoWrap, .bool s.Hide, i64 s.SaveX, i64 s.SaveY, i64 s.SaveA.Fg, i64 s.SaveA.Bg, .bool s.SaveA.Bold, .bool s.SaveA.Under, .bool s.SaveA.Turn, .slice s.Tabs.A s.Tabs.n s.Tabs.c, i64 s.Limit, .slice s.Back.A s.Back.n s.Back.c]) 33 (0, 0))] (fun p hp_ => by rcases List.mem_cons.1 hp_ with rfl | hp_; exact hp; obtain rfl := List.mem_singleton.1 hp_; exact hq) (by simp [hne])
 refine WC.r1 hs1 [] rfl (WC.r1 hs1 [0, 1] rfl (WC.ret (retV1 rfl (resV.tmp rfl) (⟨rfl, St.untouch hs1 (fun k hk => ?_) (fun p hp_ => ?_)⟩))))
 · rcases List.mem_cons.1 hk with rfl | hk
   · exact ⟨_, List.mem_cons_self⟩
   · obtain rfl := List.mem_singleton.1 hk
     exact ⟨_, List.mem_cons_of_mem _ List.mem_cons_self⟩
 · rcases List.mem_cons.1 hp_ with rfl | hp_
   · exact hp
   · obtain rfl := List.mem_singleton.1 hp_
     exact hq
theorem k86_ (b_s : Nat) (s : ScrR) (L_s : Hp) (a : Int) (b : Int) (w : World) (hb_s : w.heap[b_s]? = some (Obj.cells (List.toArray [i64 s.W, i64 s.H, i64 s.Main.W, i64 s.Main.H, .slice s.Main.Cells.A s.Main.Cells.n s.Main.Cells.c, i64 s.Alt.W, i64 s.Alt.H, .slice s.Alt.Cells.A s.Alt.Cells.n s.Alt.Cells.c, .bool s.OnAlt, i64 s.X, i64 s.Y, .bool s.Wrap, i64 s.A.Fg, i64 s.A.Bg, .bool s.A.Bold, .bool s.A.Under, .bool s.A.Turn, i64 s.Top, i64 s.Bot, .bool s.NoWrap, .bool s.Hide, i64 s.SaveX, i64 s.SaveY, i64 s.SaveA.Fg, i64 s.SaveA.Bg, .bool s.SaveA.Bold, .bool s.SaveA.Under, .bool s.SaveA.Turn, .slice s.Tabs.A s.Tabs.n s.Tabs.c, i64 s.Limit, .slice s.Back.A s.Back.n s.Back.c]) 33 (0, 0))) (o_s : ownScrR s L_s) (h_s : Hh w L_s) (hd_ : (b_s :: L_s.map (·.1)).Nodup) (hab : 0 ≤ a ∧ b ≤ s.Main.Cells.xs.length ∧ b ≤ 1048576 ∧ -1048576 ≤ b ∧ a ≤ 1048576) (hsmB : smScr 549755813888 s.dat) (hx : s.OnAlt = false) :
    Calls Tryz.prog 236 #[.pointer (some ⟨b_s, 0, none⟩), i64 a, i64 b] w fun e w' => ∃ r L1, e = .returned (.tuple #[]) ∧ St w (b_s :: L_s.map (·.1)) ([(b_s, Obj.cells (List.toArray [i64 r.W, i64 r.H, i64 r.Main.W, i64 r.Main.H, .slice r.Main.Cells.A r.Main.Cells.n r.Main.Cells.c, i64 r.Alt.W, i64 r.Alt.H, .slice r.Alt.Cells.A r.Alt.Cells.n r.Alt.Cells.c, .bool r.OnAlt, i64 r.X, i64 r.Y, .bool r.Wrap, i64 r.A.Fg, i64 r.A.Bg, .bool r.A.Bold, .bool r.A.Under, .bool r.A.Turn, i64 r.Top, i64 r.Bot, .bool r.NoWrap, .bool r.Hide, i64 r.SaveX, i64 r.SaveY, i64 r.SaveA.Fg, i64 r.SaveA.Bg, .bool r.SaveA.Bold, .bool r.SaveA.Under, .bool r.SaveA.Turn, .slice r.Tabs.A r.Tabs.n r.Tabs.c, i64 r.Limit, .slice r.Back.A r.Back.n r.Back.c]) 33 (0, 0))] ++ L1) w' ∧ ownScrR r L1 ∧ r.dat = clearD s.dat a b := by
 refine enter 23 Tryz.func236 rfl Tryz.ntmps236 rfl rfl ?_
 have hs1 := St.takeP w b_s _ L_s hb_s h_s hd_
 refine WC.sr (WL.r 1 hs1 [] rfl ?_)
 have hF2 := ((hs1.fr L_s).fb b_s)
 refine WL.cl Tryz.call223 rfl (k47_ _ s _ _ (St.headP hF2) o_s (St.ownP hF2) (St.nodupP hF2) ?_) ?_
 · first | assumption | rfl | omega
 rintro _ whs3 ⟨r4, L5, rfl, hs3, ho6, hd7⟩
 replace hs3 := St.lendP hF2 hs3
 refine ⟨_, rfl, ?_⟩
 have hrl : r4.Main.Cells.xs.length = s.Main.Cells.xs.length := congrArg (fun d : ScrD => d.Main.Cells.length) hd7
 have hln := ownScrR.len ‹ownScrR r4 _›
 refine WL.r 4 hs3 [0] rfl (WL.nil (WC.r1 hs3 [] rfl (WC.block ?_)))
 obtain ⟨L8, L9, L10, L11, hs16, ho12, ho13, ho14, ho15⟩ := ownScrR.op hs3 ho6
 have hs17 := (hs16.fb b_s)
 refine WC.lO [2, 6] rfl (hs17.fr L8) (fun k_ f L_ => ∃ (i : Nat) (zs : List CellD), k_ = (b - a).toNat - i ∧ (i ≤ (b - a).toNat) ∧ (zs.length = r4.Main.Cells.xs.length) ∧ (∀ k, k < r4.Main.Cells.xs.length → cat zs k = partF r4.Main.dat (clearF r4.Main.dat a b) a.toNat i k) ∧ OwnF encCell 75 (.slice r4.Main.Cells.A (r4.Main.Cells.n) r4.Main.Cells.c) (zs) L_ ∧ Sub [(7, .int .i64 (a + i))] f) (((fun (i : Nat) (zs : List CellD) => (b - a).toNat - i) (0) (r4.Main.Cells.xs))) ?_ ?_
 ·refine ⟨0, r4.Main.Cells.xs, rfl, ?_, ?_, ?_, ho12, ⟨?_, trivial⟩⟩
  · omega
  · rfl
  · intro k hk; rw [partF_zero]; rfl
  · (refine congrArg some (congrArg (Value.int _) ?_); omega)
 clear hs17
 rintro _ f w L20 ⟨i, zs, rfl, p0, p1, p2, ho21, hG⟩ hF hs22
 refine WC.sub _ (hG.app hF) ?_
 clear hG hF
 replace hs22 := St.back [_] hs22
 refine WC.seq (fun K23 hK23 => WC.r1 hs22 [] rfl ?_)
 refine WC.cD rfl (fun qh24 => ?_) (fun qh24 => ?_)
 ·refine WC.skip (hK23 _ _ (WC.seq (fun K25 hK25 => WC.block (WC.region (WL.r 2 hs22 [] rfl (WL.cl Tryz.call253 rfl (k14_ _) ?_))))))
  rintro _ whs26 ⟨rfl, hs26⟩
  replace hs26 := hs22.call0 hs26
  refine ⟨_, rfl, WL.val rfl rfl rfl (Run.idx Tryz.runUnderlying26 Tryz.sizeOf75 rfl rfl rfl ?_ ?_ ?_) ?_⟩
  · exact SlF.some_ (SlF.ofOwn ho21 (hs26.ow L20))
  · first | omega | (obtain ⟨h1, h2, _, _⟩ := hln; omega)
  · first | omega | (obtain ⟨h1, h2, _, _⟩ := hln; omega)
  refine WL.storeF1 (x' := blankC) (hs26.fr L20) ho21 Tryz.sizeOf75 rfl rfl rfl rfl rfl rfl rfl rfl rfl ?_ rfl (fun L27 whs28 hs28 ho29 _ => ?_)
  · first | omega | (obtain ⟨h1, h2, _, _⟩ := hln; omega)
  replace hs28 := St.back [_] hs28
  refine WL.nil (hK25 _ _ (WC.region (WL.r 3 hs28 [] rfl (WL.nil (tkN ?_)))))
  refine ⟨sbF rfl, _, (hs28.fr L27), _, ?_, i + 1, _, rfl, ?_, ?_, ?_, ho29, ⟨?_, trivial⟩⟩
  · omega
  · omega
  · rw [List.length_set]; exact p1
  · intro k hk; exact part_next (g := r4.Main.dat) (by omega) (by rw [p1]; omega) (clearF_in ⟨by omega, by omega⟩).symm (p2 k hk)
  · (refine congrArg some (congrArg (Value.int _) ?_); omega)
 refine WC.exit (tkE (tkE (ibE (retK0 rfl ?_))))
 obtain ⟨L31, hs30, ho32⟩ := ownScrR.fl hs22 ho21 ho13 ho14 ho15
 have hs33 := (hs30.fb b_s)
 refine ownScrR.retp rfl ((hs33.fr L31).fb b_s) ho32 ?_
 · rw [← hd7]; show _ = clearD r4.dat a b; rw [show clearD r4.dat a b = { r4.dat with Main := gmap r4.Main.dat (clearF r4.Main.dat a b) } from by unfold clearD putD shownD; rw [if_neg (show ¬ r4.dat.OnAlt = true from by have h8 : r4.OnAlt = s.OnAlt := congrArg ScrD.OnAlt hd7; show ¬ r4.OnAlt = true; rw [h8, hx]; decide), if_neg (show ¬ r4.dat.OnAlt = true from by have h8 : r4.OnAlt = s.OnAlt := congrArg ScrD.OnAlt hd7; show ¬ r4.OnAlt = true; rw [h8, hx]; decide)]; rfl]; exact ScrD.ext' rfl rfl (part_done (g := r4.Main.dat) (lo := a.toNat) (a := i) rfl rfl p1 (fun k hk h9 => clearF_out (by omega)) p2) rfl rfl rfl rfl rfl rfl rfl rfl rfl rfl rfl rfl rfl rfl rfl rfl
theorem k87_ (b_s : Nat) (s : ScrR) (L_s : Hp) (a : Int) (b : Int) (w : World) (hb_s : w.heap[b_s]? = some (Obj.cells (List.toArray [i64 s.W, i64 s.H, i64 s.Main.W, i64 s.Main.H, .slice s.Main.Cells.A s.Main.Cells.n s.Main.Cells.c, i64 s.Alt.W, i64 s.Alt.H, .slice s.Alt.Cells.A s.Alt.Cells.n s.Alt.Cells.c, .bool s.OnAlt, i64 s.X, i64 s.Y, .bool s.Wrap, i64 s.A.Fg, i64 s.A.Bg, .bool s.A.Bold, .bool s.A.Under, .bool s.A.Turn, i64 s.Top, i64 s.Bot, .bool s.NoWrap, .bool s.Hide, i64 s.SaveX, i64 s.SaveY, i64 s.SaveA.Fg, i64 s.SaveA.Bg, .bool s.SaveA.Bold, .bool s.SaveA.Under, .bool s.SaveA.Turn, .slice s.Tabs.A s.Tabs.n s.Tabs.c, i64 s.Limit, .slice s.Back.A s.Back.n s.Back.c]) 33 (0, 0))) (o_s : ownScrR s L_s) (h_s : Hh w L_s) (hd_ : (b_s :: L_s.map (·.1)).Nodup) (hab : 0 ≤ a ∧ b ≤ s.Alt.Cells.xs.length ∧ b ≤ 1048576 ∧ -1048576 ≤ b ∧ a ≤ 1048576) (hsmB : smScr 549755813888 s.dat) (hx : s.OnAlt = true) :
    Calls Tryz.prog 236 #[.pointer (some ⟨b_s, 0, none⟩), i64 a, i64 b] w fun e w' => ∃ r L1, e = .returned (.tuple #[]) ∧ St w (b_s :: L_s.map (·.1)) ([(b_s, Obj.cells (List.toArray [i64 r.W, i64 r.H, i64 r.Main.W, i64 r.Main.H, .slice r.Main.Cells.A r.Main.Cells.n r.Main.Cells.c, i64 r.Alt.W, i64 r.Alt.H, .slice r.Alt.Cells.A r.Alt.Cells.n r.Alt.Cells.c, .bool r.OnAlt, i64 r.X, i64 r.Y, .bool r.Wrap, i64 r.A.Fg, i64 r.A.Bg, .bool r.A.Bold, .bool r.A.Under, .bool r.A.Turn, i64 r.Top, i64 r.Bot, .bool r.NoWrap, .bool r.Hide, i64 r.SaveX, i64 r.SaveY, i64 r.SaveA.Fg, i64 r.SaveA.Bg, .bool r.SaveA.Bold, .bool r.SaveA.Under, .bool r.SaveA.Turn, .slice r.Tabs.A r.Tabs.n r.Tabs.c, i64 r.Limit, .slice r.Back.A r.Back.n r.Back.c]) 33 (0, 0))] ++ L1) w' ∧ ownScrR r L1 ∧ r.dat = clearD s.dat a b := by
 refine enter 23 Tryz.func236 rfl Tryz.ntmps236 rfl rfl ?_
 have hs1 := St.takeP w b_s _ L_s hb_s h_s hd_
 refine WC.sr (WL.r 1 hs1 [] rfl ?_)
 have hF2 := ((hs1.fr L_s).fb b_s)
 refine WL.cl Tryz.call223 rfl (k48_ _ s _ _ (St.headP hF2) o_s (St.ownP hF2) (St.nodupP hF2) ?_) ?_
 · first | assumption | rfl | omega
 rintro _ whs3 ⟨r4, L5, rfl, hs3, ho6, hd7⟩
 replace hs3 := St.lendP hF2 hs3
 refine ⟨_, rfl, ?_⟩
 have hrl : r4.Alt.Cells.xs.length = s.Alt.Cells.xs.length := congrArg (fun d : ScrD => d.Alt.Cells.length) hd7
 have hln := ownScrR.len ‹ownScrR r4 _›
 refine WL.r 4 hs3 [0] rfl (WL.nil (WC.r1 hs3 [] rfl (WC.block ?_)))
 obtain ⟨L8, L9, L10, L11, hs16, ho12, ho13, ho14, ho15⟩ := ownScrR.op hs3 ho6
 have hs17 := (hs16.fb b_s)
 refine WC.lO [2, 6] rfl (hs17.fr L9) (fun k_ f L_ => ∃ (i : Nat) (zs : List CellD), k_ = (b - a).toNat - i ∧ (i ≤ (b - a).toNat) ∧ (zs.length = r4.Alt.Cells.xs.length) ∧ (∀ k, k < r4.Alt.Cells.xs.length → cat zs k = partF r4.Alt.dat (clearF r4.Alt.dat a b) a.toNat i k) ∧ OwnF encCell 75 (.slice r4.Alt.Cells.A (r4.Alt.Cells.n) r4.Alt.Cells.c) (zs) L_ ∧ Sub [(7, .int .i64 (a + i))] f) (((fun (i : Nat) (zs : List CellD) => (b - a).toNat - i) (0) (r4.Alt.Cells.xs))) ?_ ?_
 ·refine ⟨0, r4.Alt.Cells.xs, rfl, ?_, ?_, ?_, ho13, ⟨?_, trivial⟩⟩
  · omega
  · rfl
  · intro k hk; rw [partF_zero]; rfl
  · (refine congrArg some (congrArg (Value.int _) ?_); omega)
 clear hs17
 rintro _ f w L20 ⟨i, zs, rfl, p0, p1, p2, ho21, hG⟩ hF hs22
 refine WC.sub _ (hG.app hF) ?_
 clear hG hF
 replace hs22 := St.back [_] hs22
 refine WC.seq (fun K23 hK23 => WC.r1 hs22 [] rfl ?_)
 refine WC.cD rfl (fun qh24 => ?_) (fun qh24 => ?_)
 ·refine WC.skip (hK23 _ _ (WC.seq (fun K25 hK25 => WC.block (WC.region (WL.r 2 hs22 [] rfl (WL.cl Tryz.call253 rfl (k14_ _) ?_))))))
  rintro _ whs26 ⟨rfl, hs26⟩
  replace hs26 := hs22.call0 hs26
  refine ⟨_, rfl, WL.val rfl rfl rfl (Run.idx Tryz.runUnderlying26 Tryz.sizeOf75 rfl rfl rfl ?_ ?_ ?_) ?_⟩
  · exact SlF.some_ (SlF.ofOwn ho21 (hs26.ow L20))
  · first | omega | (obtain ⟨h1, h2, _, _⟩ := hln; omega)
  · first | omega | (obtain ⟨h1, h2, _, _⟩ := hln; omega)
  refine WL.storeF1 (x' := blankC) (hs26.fr L20) ho21 Tryz.sizeOf75 rfl rfl rfl rfl rfl rfl rfl rfl rfl ?_ rfl (fun L27 whs28 hs28 ho29 _ => ?_)
  · first | omega | (obtain ⟨h1, h2, _, _⟩ := hln; omega)
  replace hs28 := St.back [_] hs28
  refine WL.nil (hK25 _ _ (WC.region (WL.r 3 hs28 [] rfl (WL.nil (tkN ?_)))))
  refine ⟨sbF rfl, _, (hs28.fr L27), _, ?_, i + 1, _, rfl, ?_, ?_, ?_, ho29, ⟨?_, trivial⟩⟩
  · omega
  · omega
  · rw [List.length_set]; exact p1
  · intro k hk; exact part_next (g := r4.Alt.dat) (by omega) (by rw [p1]; omega) (clearF_in ⟨by omega, by omega⟩).symm (p2 k hk)
  · (refine congrArg some (congrArg (Value.int _) ?_); omega)
 refine WC.exit (tkE (tkE (ibE (retK0 rfl ?_))))
 obtain ⟨L31, hs30, ho32⟩ := ownScrR.fl hs22 ho12 ho21 ho14 ho15
 have hs33 := (hs30.fb b_s)
 refine ownScrR.retp rfl ((hs33.fr L31).fb b_s) ho32 ?_
 · rw [← hd7]; show _ = clearD r4.dat a b; rw [show clearD r4.dat a b = { r4.dat with Alt := gmap r4.Alt.dat (clearF r4.Alt.dat a b) } from by unfold clearD putD shownD; rw [if_pos (show  r4.dat.OnAlt = true from by have h8 : r4.OnAlt = s.OnAlt := congrArg ScrD.OnAlt hd7; show  r4.OnAlt = true; rw [h8, hx]), if_pos (show  r4.dat.OnAlt = true from by have h8 : r4.OnAlt = s.OnAlt := congrArg ScrD.OnAlt hd7; show  r4.OnAlt = true; rw [h8, hx])]; rfl]; exact ScrD.ext' rfl rfl rfl (part_done (g := r4.Alt.dat) (lo := a.toNat) (a := i) rfl rfl p1 (fun k hk h9 => clearF_out (by omega)) p2) rfl rfl rfl rfl rfl rfl rfl rfl rfl rfl rfl rfl rfl rfl rfl
theorem k88_ (b_s : Nat) (s : ScrR) (L_s : Hp) (a : Int) (b : Int) (w : World) (hb_s : w.heap[b_s]? = some (Obj.cells (List.toArray [i64 s.W, i64 s.H, i64 s.Main.W, i64 s.Main.H, .slice s.Main.Cells.A s.Main.Cells.n s.Main.Cells.c, i64 s.Alt.W, i64 s.Alt.H, .slice s.Alt.Cells.A s.Alt.Cells.n s.Alt.Cells.c, .bool s.OnAlt, i64 s.X, i64 s.Y, .bool s.Wrap, i64 s.A.Fg, i64 s.A.Bg, .bool s.A.Bold, .bool s.A.Under, .bool s.A.Turn, i64 s.Top, i64 s.Bot, .bool s.NoWrap, .bool s.Hide, i64 s.SaveX, i64 s.SaveY, i64 s.SaveA.Fg, i64 s.SaveA.Bg, .bool s.SaveA.Bold, .bool s.SaveA.Under, .bool s.SaveA.Turn, .slice s.Tabs.A s.Tabs.n s.Tabs.c, i64 s.Limit, .slice s.Back.A s.Back.n s.Back.c]) 33 (0, 0))) (o_s : ownScrR s L_s) (h_s : Hh w L_s) (hd_ : (b_s :: L_s.map (·.1)).Nodup) (hab : 0 ≤ a ∧ a ≤ 1048576 ∧ b ≤ s.W * s.H ∧ -1048576 ≤ b) (hf : ScrFine s.dat) (hsmB : smScr 549755813888 s.dat) :
    Calls Tryz.prog 236 #[.pointer (some ⟨b_s, 0, none⟩), i64 a, i64 b] w fun e w' => ∃ r L1, e = .returned (.tuple #[]) ∧ St w (b_s :: L_s.map (·.1)) ([(b_s, Obj.cells (List.toArray [i64 r.W, i64 r.H, i64 r.Main.W, i64 r.Main.H, .slice r.Main.Cells.A r.Main.Cells.n r.Main.Cells.c, i64 r.Alt.W, i64 r.Alt.H, .slice r.Alt.Cells.A r.Alt.Cells.n r.Alt.Cells.c, .bool r.OnAlt, i64 r.X, i64 r.Y, .bool r.Wrap, i64 r.A.Fg, i64 r.A.Bg, .bool r.A.Bold, .bool r.A.Under, .bool r.A.Turn, i64 r.Top, i64 r.Bot, .bool r.NoWrap, .bool r.Hide, i64 r.SaveX, i64 r.SaveY, i64 r.SaveA.Fg, i64 r.SaveA.Bg, .bool r.SaveA.Bold, .bool r.SaveA.Under, .bool r.SaveA.Turn, .slice r.Tabs.A r.Tabs.n r.Tabs.c, i64 r.Limit, .slice r.Back.A r.Back.n r.Back.c]) 33 (0, 0))] ++ L1) w' ∧ ownScrR r L1 ∧ r.dat = clearD s.dat a b := by
 have hz := isSize_bnd hf.size
 simp only [ScrR.dat] at hz
 have hgm := grid_len hf.gM
 have hga := grid_len hf.gA
 obtain ⟨d1, d2, d3, d4⟩ := hf.dim
 simp only [ScrR.dat, GridR.dat] at hgm hga d1 d2 d3 d4
 rw [d1, d2] at hgm
 rw [d3, d4] at hga
 rcases Bool.eq_false_or_eq_true s.OnAlt with hx_ | hx_
 · exact k87_ b_s s L_s a b w hb_s o_s h_s hd_ ⟨hab.1, by omega, by omega, by omega, by omega⟩ hsmB hx_
 · exact k86_ b_s s L_s a b w hb_s o_s h_s hd_ ⟨hab.1, by omega, by omega, by omega, by omega⟩ hsmB hx_
theorem k89_ (b_s : Nat) (s : ScrR) (L_s : Hp) (k : Int) (row : Bool) (w : World) (hb_s : w.heap[b_s]? = some (Obj.cells (List.toArray [i64 s.W, i64 s.H, i64 s.Main.W, i64 s.Main.H, .slice s.Main.Cells.A s.Main.Cells.n s.Main.Cells.c, i64 s.Alt.W, i64 s.Alt.H, .slice s.Alt.Cells.A s.Alt.Cells.n s.Alt.Cells.c, .bool s.OnAlt, i64 s.X, i64 s.Y, .bool s.Wrap, i64 s.A.Fg, i64 s.A.Bg, .bool s.A.Bold, .bool s.A.Under, .bool s.A.Turn, i64 s.Top, i64 s.Bot, .bool s.NoWrap, .bool s.Hide, i64 s.SaveX, i64 s.SaveY, i64 s.SaveA.Fg, i64 s.SaveA.Bg, .bool s.SaveA.Bold, .bool s.SaveA.Under, .bool s.SaveA.Turn, .slice s.Tabs.A s.Tabs.n s.Tabs.c, i64 s.Limit, .slice s.Back.A s.Back.n s.Back.c]) 33 (0, 0))) (o_s : ownScrR s L_s) (h_s : Hh w L_s) (hd_ : (b_s :: L_s.map (·.1)).Nodup) (hf : ScrFine s.dat) (hsmB : smScr 549755813888 s.dat) :
    Calls Tryz.prog 235 #[.pointer (some ⟨b_s, 0, none⟩), i64 k, .bool row] w fun e w' => ∃ r L1, e = .returned (.tuple #[]) ∧ St w (b_s :: L_s.map (·.1)) ([(b_s, Obj.cells (List.toArray [i64 r.W, i64 r.H, i64 r.Main.W, i64 r.Main.H, .slice r.Main.Cells.A r.Main.Cells.n r.Main.Cells.c, i64 r.Alt.W, i64 r.Alt.H, .slice r.Alt.Cells.A r.Alt.Cells.n r.Alt.Cells.c, .bool r.OnAlt, i64 r.X, i64 r.Y, .bool r.Wrap, i64 r.A.Fg, i64 r.A.Bg, .bool r.A.Bold, .bool r.A.Under, .bool r.A.Turn, i64 r.Top, i64 r.Bot, .bool r.NoWrap, .bool r.Hide, i64 r.SaveX, i64 r.SaveY, i64 r.SaveA.Fg, i64 r.SaveA.Bg, .bool r.SaveA.Bold, .bool r.SaveA.Under, .bool r.SaveA.Turn, .slice r.Tabs.A r.Tabs.n r.Tabs.c, i64 r.Limit, .slice r.Back.A r.Back.n r.Back.c]) 33 (0, 0))] ++ L1) w' ∧ ownScrR r L1 ∧ r.dat = eraseD s.dat (if row = true then s.Y * s.W else 0) (if row = true then (s.Y + 1) * s.W else s.W * s.H) k := by
 have hwh : (1 ≤ s.W ∧ s.W ≤ 120) ∧ 1 ≤ s.H ∧ s.H ≤ 120 := ⟨(isSize_bnd hf.size).1, (isSize_bnd hf.size).2.1⟩
 have hxy := hf.pos
 simp only [ScrR.dat, GridR.dat] at hxy
 have hz := isSize_bnd hf.size
 simp only [ScrR.dat] at hz
 have hv0 : 0 ≤ s.Y * s.W := Int.mul_nonneg (by omega) (by omega)
 have hv1 : (s.Y + 1) * s.W = s.Y * s.W + s.W := by rw [Int.add_mul, Int.one_mul]
 have hv2 : (s.Y + 1) * s.W ≤ s.H * s.W := Int.mul_le_mul_of_nonneg_right (by omega) (by omega)
 rw [Int.mul_comm s.H s.W] at hv2
 refine enter 72 Tryz.func235 rfl Tryz.ntmps235 rfl rfl ?_
 have hs1 := St.takeP w b_s _ L_s hb_s h_s hd_
 refine WC.q1 hs1 [0, 0, 0, 0, 0] rfl (fun _ hs2 => WC.seq (fun K3 hK3 => WC.r1 hs2 [] rfl ?_))
 refine WC.cq rfl (fun h4 qh4 => ?_) (fun h4 qh4 => ?_)
 ·have hrow : row = true := by have h9 := h4; simpa using h9
  refine WC.regionQ (fun w' => St _ _ _ w') mixed (by kernel_rfl) hs2.drew (WQ.r 21 [0, 0, 0, 0] rfl (WQ.nil (fun _ (hs5 : St _ _ _ _) => hK3 _ _ (WC.r1 hs5 [] rfl (WC.block (WC.r1 hs5 [] rfl ?_))))))
  refine WC.cq rfl (fun h6 qh6 => ?_) (fun h6 qh6 => ?_)
  ·have e0 : k = 0 := by have h9 := h6; simpa using h9
   refine WC.region (WL.r 3 hs5 [] rfl ?_)
   have hF7 := ((hs5.fr L_s).fb b_s)
   refine WL.cl Tryz.call236 rfl (k88_ _ s _ _ _ _ (St.headP hF7) o_s (St.ownP hF7) (St.nodupP hF7) ?_ ?_ ?_) ?_
   iterate 3 first | assumption | rfl | omega | (refine ⟨?_, ?_, ?_, ?_⟩ <;> omega)
   rintro _ whs8 ⟨r9, L10, rfl, hs8, ho11, hd12⟩
   replace hs8 := St.lendP hF7 hs8
   refine ⟨_, rfl, WL.nil (ibN (retK0 rfl (⟨r9, _, rfl, St.keepP (L1 := L10) ((hs8.fr L10).fb b_s), ho11, ?_⟩)))⟩
   · first | rw [if_pos hrow, if_pos hrow] | rw [if_neg hrow, if_neg hrow]
     unfold eraseD; rw [if_pos e0]; exact hd12
  have e0 : ¬ k = 0 := by have h9 := h6; simpa using h9
  refine WC.r1 hs5 [] rfl (WC.cq rfl (fun h13 qh13 => ?_) (fun h13 qh13 => ?_))
  ·have e1 : k = 1 := by have h9 := h13; simpa using h9
   refine WC.region (WL.r 4 hs5 [] rfl ?_)
   have hF14 := ((hs5.fr L_s).fb b_s)
   refine WL.cl Tryz.call236 rfl (k88_ _ s _ _ _ _ (St.headP hF14) o_s (St.ownP hF14) (St.nodupP hF14) ?_ ?_ ?_) ?_
   iterate 3 first | assumption | rfl | omega | (refine ⟨?_, ?_, ?_, ?_⟩ <;> omega)
   rintro _ whs15 ⟨r16, L17, rfl, hs15, ho18, hd19⟩
   replace hs15 := St.lendP hF14 hs15
   refine ⟨_, rfl, WL.nil (ibN (retK0 rfl (⟨r16, _, rfl, St.keepP (L1 := L17) ((hs15.fr L17).fb b_s), ho18, ?_⟩)))⟩
   · first | rw [if_pos hrow, if_pos hrow] | rw [if_neg hrow, if_neg hrow]
     unfold eraseD; rw [if_neg e0, if_pos e1]; exact hd19
  have e1 : ¬ k = 1 := by have h9 := h13; simpa using h9
  refine WC.r1 hs5 [] rfl (WC.cq rfl (fun h20 qh20 => ?_) (fun h20 qh20 => ?_))
  ·have e2 : k = 2 := by have h9 := h20; simpa using h9
   refine WC.region (WL.r 3 hs5 [] rfl ?_)
   have hF21 := ((hs5.fr L_s).fb b_s)
   refine WL.cl Tryz.call236 rfl (k88_ _ s _ _ _ _ (St.headP hF21) o_s (St.ownP hF21) (St.nodupP hF21) ?_ ?_ ?_) ?_
   iterate 3 first | assumption | rfl | omega | (refine ⟨?_, ?_, ?_, ?_⟩ <;> omega)
   rintro _ whs22 ⟨r23, L24, rfl, hs22, ho25, hd26⟩
   replace hs22 := St.lendP hF21 hs22
   refine ⟨_, rfl, WL.nil (ibN (retK0 rfl (⟨r23, _, rfl, St.keepP (L1 := L24) ((hs22.fr L24).fb b_s), ho25, ?_⟩)))⟩
   · first | rw [if_pos hrow, if_pos hrow] | rw [if_neg hrow, if_neg hrow]
     unfold eraseD; rw [if_neg e0, if_neg e1, if_pos e2]; exact hd26
  have e2 : ¬ k = 2 := by have h9 := h20; simpa using h9
  refine WC.skip (ibN (retK0 rfl (⟨s, _, rfl, St.keepP (L1 := L_s) ((hs5.fr L_s).fb b_s), o_s, ?_⟩)))
  · first | rw [if_pos hrow, if_pos hrow] | rw [if_neg hrow, if_neg hrow]
    unfold eraseD; rw [if_neg e0, if_neg e1, if_neg e2]
 have hrow : ¬ row = true := by have h9 := h4; simpa using h9
 refine WC.skip (hK3 _ _ (WC.r1 hs2 [] rfl (WC.block (WC.r1 hs2 [] rfl ?_))))
 refine WC.cq rfl (fun h27 qh27 => ?_) (fun h27 qh27 => ?_)
 ·have e0 : k = 0 := by have h9 := h27; simpa using h9
  refine WC.region (WL.r 3 hs2 [] rfl ?_)
  have hF28 := ((hs2.fr L_s).fb b_s)
  refine WL.cl Tryz.call236 rfl (k88_ _ s _ _ _ _ (St.headP hF28) o_s (St.ownP hF28) (St.nodupP hF28) ?_ ?_ ?_) ?_
  iterate 3 first | assumption | rfl | omega | (refine ⟨?_, ?_, ?_, ?_⟩ <;> omega)
  rintro _ whs29 ⟨r30, L31, rfl, hs29, ho32, hd33⟩
  replace hs29 := St.lendP hF28 hs29
  refine ⟨_, rfl, WL.nil (ibN (retK0 rfl (⟨r30, _, rfl, St.keepP (L1 := L31) ((hs29.fr L31).fb b_s), ho32, ?_⟩)))⟩
  · first | rw [if_pos hrow, if_pos hrow] | rw [if_neg hrow, if_neg hrow]
    unfold eraseD; rw [if_pos e0]; exact hd33
 have e0 : ¬ k = 0 := by have h9 := h27; simpa using h9
 refine WC.r1 hs2 [] rfl (WC.cq rfl (fun h34 qh34 => ?_) (fun h34 qh34 => ?_))
 ·have e1 : k = 1 := by have h9 := h34; simpa using h9
  refine WC.region (WL.r 4 hs2 [] rfl ?_)
  have hF35 := ((hs2.fr L_s).fb b_s)
  refine WL.cl Tryz.call236 rfl (k88_ _ s _ _ _ _ (St.headP hF35) o_s (St.ownP hF35) (St.nodupP hF35) ?_ ?_ ?_) ?_
  iterate 3 first | assumption | rfl | omega | (refine ⟨?_, ?_, ?_, ?_⟩ <;> omega)
  rintro _ whs36 ⟨r37, L38, rfl, hs36, ho39, hd40⟩
  replace hs36 := St.lendP hF35 hs36
  refine ⟨_, rfl, WL.nil (ibN (retK0 rfl (⟨r37, _, rfl, St.keepP (L1 := L38) ((hs36.fr L38).fb b_s), ho39, ?_⟩)))⟩
  · first | rw [if_pos hrow, if_pos hrow] | rw [if_neg hrow, if_neg hrow]
    unfold eraseD; rw [if_neg e0, if_pos e1]; exact hd40
 have e1 : ¬ k = 1 := by have h9 := h34; simpa using h9
 refine WC.r1 hs2 [] rfl (WC.cq rfl (fun h41 qh41 => ?_) (fun h41 qh41 => ?_))
 ·have e2 : k = 2 := by have h9 := h41; simpa using h9
  refine WC.region (WL.r 3 hs2 [] rfl ?_)
  have hF42 := ((hs2.fr L_s).fb b_s)
  refine WL.cl Tryz.call236 rfl (k88_ _ s _ _ _ _ (St.headP hF42) o_s (St.ownP hF42) (St.nodupP hF42) ?_ ?_ ?_) ?_
  iterate 3 first | assumption | rfl | omega | (refine ⟨?_, ?_, ?_, ?_⟩ <;> omega)
  rintro _ whs43 ⟨r44, L45, rfl, hs43, ho46, hd47⟩
  replace hs43 := St.lendP hF42 hs43
  refine ⟨_, rfl, WL.nil (ibN (retK0 rfl (⟨r44, _, rfl, St.keepP (L1 := L45) ((hs43.fr L45).fb b_s), ho46, ?_⟩)))⟩
  · first | rw [if_pos hrow, if_pos hrow] | rw [if_neg hrow, if_neg hrow]
    unfold eraseD; rw [if_neg e0, if_neg e1, if_pos e2]; exact hd47
 have e2 : ¬ k = 2 := by have h9 := h41; simpa using h9
 refine WC.skip (ibN (retK0 rfl (⟨s, _, rfl, St.keepP (L1 := L_s) ((hs2.fr L_s).fb b_s), o_s, ?_⟩)))
 · first | rw [if_pos hrow, if_pos hrow] | rw [if_neg hrow, if_neg hrow]
   unfold eraseD; rw [if_neg e0, if_neg e1, if_neg e2]
theorem k90_ (g : GridR) (x : Int) (y : Int) (n : Int) (w : World) (f_g : okGridR 549755813888 w g) (hg : gridOk g.dat = true) (hx : 0 ≤ x ∧ x < g.W) (hy : 0 ≤ y ∧ y < g.H) (hn : -100000 ≤ n ∧ n ≤ 100000) :
    Calls Tryz.prog 237 #[.agg #[i64 g.W, i64 g.H, .slice g.Cells.A g.Cells.n g.Cells.c], i64 x, i64 y, i64 n] w fun e w' => ∃ r L1, e = .returned (.agg #[i64 r.W, i64 r.H, .slice r.Cells.A r.Cells.n r.Cells.c]) ∧ St w [] L1 w' ∧ ownGridR r L1 ∧ r.dat = gShift g.dat x y n := by
 have nb_g_Cells := f_g.Cells_n
 have nl_g_Cells := f_g.Cells.len
 have hgb : (1 ≤ g.W ∧ g.W ≤ 120) ∧ (1 ≤ g.H ∧ g.H ≤ 120) ∧ 1 ≤ g.W * g.H ∧ g.W * g.H ≤ 4000 := gridOk_bnd hg
 have hgl : (g.Cells.xs.length : Int) = g.W * g.H := grid_len hg
 have hsmg : smGrid 1048576 g.dat := by show g.Cells.xs.length ≤ 1048576; omega
 have hsmgB : smGrid 549755813888 g.dat := Nat.le_trans hsmg (by decide)
 have hv0 : 0 ≤ y * g.W := Int.mul_nonneg (by omega) (by omega)
 have hv1 : (y + 1) * g.W = y * g.W + g.W := by rw [Int.add_mul, Int.one_mul]
 have hv2 : (y + 1) * g.W ≤ g.H * g.W := Int.mul_le_mul_of_nonneg_right (by omega) (by omega)
 rw [Int.mul_comm g.H g.W] at hv2
 have hlo2 : (y * g.W).toNat = y.toNat * g.W.toNat := Int.toNat_mul (by omega) (by omega)
 have hnz : ((y.toNat * g.W.toNat : Nat) : Int) = y * g.W := by rw [← hlo2]; omega
 have hhas : gridHas g.dat x y = true := by unfold gridHas; rw [Bool.and_eq_true, within_iff, within_iff]; show (0 ≤ x ∧ x ≤ g.W - 1) ∧ 0 ≤ y ∧ y ≤ g.H - 1; omega
 refine enter 63 Tryz.func237 rfl Tryz.ntmps237 rfl rfl ?_
 have hs1 := St.init w
 refine WC.sr (WL.bx hs1 rfl (fun b2 _ hs3 => WL.al hs3 Tryz.zeroValue28 rfl rfl (fun b4 _ hs5 => WL.nil (WC.seq (fun K6 hK6 => WC.sr (WL.r 1 hs5 [1] rfl (WL.cl Tryz.call93 rfl (k26_ g _ (okGridR.st0 f_g hs5)) ?_)))))))
 rintro _ whs7 ⟨rfl, hs7⟩
 replace hs7 := hs5.call0 hs7
 refine ⟨_, rfl, WL.r 2 hs7 [] rfl ?_⟩
 apply WL.gO 5 Acts.nil hs7 rfl
 ·intro g8 J9
  have qg8 := g8
  try simp only [bf, within_iff, within_not] at qg8
  refine WL.runA tbk 3 (Acts.nil.cons (j := 3) rfl g8) hs7 [1] rfl ⟨rfl, trivial⟩ (WL.call (wantF rfl g8) rfl rfl (Run.call Tryz.call94 rfl rfl rfl) (k27_ g _ _ _ (okGridR.st0 f_g hs7) ?_ ?_) ?_)
  iterate 2 first | assumption | rfl | omega | (exact Nat.le_trans hsmg (by decide))
  rintro _ whs10 ⟨rfl, hs10⟩
  replace hs10 := hs7.call0 hs10
  refine ⟨_, rfl, WL.runA tbk 1 (Acts.nil.cons (j := 3) rfl g8) hs10 [] rfl trivial (WL.eO 5 Acts.nil J9 hs10 g8 rfl rfl)⟩
 intro _ hs11
 refine WL.nil (WC.cq rfl (fun h12 qh12 => ?_) (fun h12 qh12 => ?_))
 ·exfalso; have h9 := h12; simp [hg, hhas] at h9
 refine WC.skip (hK6 _ _ (WC.sr (WL.r 1 hs11 [1] rfl ?_)))
 refine WL.cl Tryz.call206 rfl (k38_ g _ (okGridR.st0 f_g hs11) ?_) ?_
 · first | assumption | rfl | omega | (exact Nat.le_trans hsmg (by decide))
 rintro _ whs13 ⟨r14, L1_15, rfl, hs13, ho16, hd17⟩
 replace hs13 := hs11.callF hs13
 refine ⟨_, rfl, ?_⟩
 replace hs13 := St.back [_, _] hs13
 have hrW : r14.W = g.W := congrArg GridD.W hd17
 have hrH : r14.H = g.H := congrArg GridD.H hd17
 have hrC : r14.Cells.xs = g.Cells.xs := congrArg GridD.Cells hd17
 have hrn := ownGridR.len ‹ownGridR r14 _›
 have hrc := OwnF.cap ‹ownGridR r14 _›
 have hz0 : y * r14.W = y * g.W := by rw [hrW]
 have hz1 : (y + 1) * r14.W = (y + 1) * g.W := by rw [hrW]
 have hrl : r14.Cells.xs.length = g.Cells.xs.length := congrArg List.length hrC
 have hlr := f_g.Cells.len
 have hcg := f_g.Cells_c
 refine WL.al hs13 Tryz.zeroValue28 rfl rfl (fun b18 _ hs19 => WL.st tbk hs19 0 rfl rfl (fun _ hs20 => WL.nil (WC.sr (WL.r 2 hs20 [0] rfl ?_))))
 refine WL.cl Tryz.call224 rfl (k41_ r14 _ _ (ownGridR.ok (B := 549755813888) ho16 (hs20.ow L1_15) (by rw [hd17]; assumption)) ?_ ?_ ?_ ?_) ?_
 iterate 4 first | assumption | rfl | omega | (exact Nat.le_trans hsmg (by decide))
 rintro _ whs21 ⟨rfl, hs21⟩
 replace hs21 := hs20.call0 hs21
 refine ⟨_, rfl, WL.r 1 hs21 [] rfl (WL.nil (WC.seq (fun K22 hK22 => WC.r1 hs21 [] rfl (WC.block ?_))))⟩
 refine WC.lO [1, 2, 3, 4, 8, 9, 10, 22] rfl (hs21.fr L1_15) (fun k_ f L_ => ∃ (a : Nat) (zs : List CellD), k_ = (g.W - x).toNat - a ∧ ((a : Int) ≤ g.W - x) ∧ (zs.length = g.Cells.xs.length) ∧ (∀ k, k < g.Cells.xs.length → cat zs k = partF g.dat (shiftF g.dat x y n) (y.toNat * g.dat.W.toNat + x.toNat) a k) ∧ OwnF encCell 75 (.slice r14.Cells.A (r14.Cells.n) r14.Cells.c) (zs) L_ ∧ Sub [(11, .int .i64 (x + a))] f) (((fun (a : Nat) (zs : List CellD) => (g.W - x).toNat - a) (0) (r14.Cells.xs))) ?_ ?_
 ·refine ⟨0, r14.Cells.xs, rfl, ?_, ?_, ?_, ho16, ⟨?_, trivial⟩⟩
  · omega
  · exact hrl
  · intro k hk; rw [partF_zero, hrC]; rfl
  · (refine congrArg some (congrArg (Value.int _) ?_); omega)
 clear hs21
 rintro _ f w L25 ⟨a, zs, rfl, p0, p1, p2, ho26, hG⟩ hF hs27
 refine WC.sub _ (hG.app hF) ?_
 clear hG hF
 replace hs27 := St.back [_, _, _] hs27
 refine WC.seq (fun K28 hK28 => WC.r1 hs27 [2] rfl ?_)
 refine WC.cq rfl (fun h29 qh29 => ?_) (fun h29 qh29 => ?_)
 ·refine WC.skip (hK28 _ _ (WC.seq (fun K30 hK30 => WC.block (WC.sr (WL.r 2 hs27 [] rfl (WL.cl Tryz.call253 rfl (k14_ _) ?_))))))
  rintro _ whs31 ⟨rfl, hs31⟩
  replace hs31 := hs27.call0 hs31
  refine ⟨_, rfl, WL.val rfl rfl rfl (Run.idx Tryz.runUnderlying26 Tryz.sizeOf75 rfl rfl rfl ?_ ?_ ?_) ?_⟩
  · exact SlF.some_ (SlF.cutC (lo := (y * r14.W).toNat) (hi := ((y + 1) * r14.W).toNat) (SlF.ofOwn ho26 (hs31.ow L25)) (by refine ⟨?_, ?_, ?_⟩ <;> (omega)))
  · first | omega | (simp only [List.length_set]; omega)
  · first | omega | (simp only [List.length_set]; omega)
  refine WL.storeC (x' := blankC) (lo := (y * r14.W).toNat) (hs31.fr L25) ho26 Tryz.sizeOf75 rfl rfl rfl rfl rfl rfl rfl rfl rfl ?_ rfl (fun L32 whs33 hs33 ho34 _ => ?_)
  · first | omega | (simp only [List.length_set]; omega)
  replace hs33 := St.back [_, _, _] hs33
  refine WL.nil (WC.r1 hs33 [] rfl (WC.sr (WL.r 1 hs33 [] rfl (WL.cl Tryz.call97 rfl (k0_ _ _ _ _) ?_))))
  rintro _ whs35 ⟨rfl, hs35⟩
  replace hs35 := hs33.call0 hs35
  refine ⟨_, rfl, WL.r 1 hs35 [] rfl ?_⟩
  apply WL.gA 6 Acts.nil hs35 rfl
  ·intro g36 J37
   have qg36 := g36
   try simp only [bf, within_iff, within_not] at qg36
   refine WL.runA tbk 5 (Acts.nil.cons (j := 2) rfl g36) hs35 [2] rfl ⟨by omega, rfl, trivial⟩ (WL.call (wantT rfl g36) rfl rfl (Run.call Tryz.call97 rfl rfl rfl) (k0_ _ _ _ _) ?_)
   rintro _ whs38 ⟨rfl, hs38⟩
   replace hs38 := hs35.call0 hs38
   refine ⟨_, rfl, WL.eA 6 Acts.nil J37 hs38 g36 rfl rfl⟩
  intro _ hs39
  refine WL.nil (WC.cq rfl (fun h40 qh40 => ?_) (fun h40 qh40 => ?_))
  ·have hin : x ≤ x + (a : Int) - n ∧ x + (a : Int) - n < g.dat.W := by show x ≤ x + (a : Int) - n ∧ x + (a : Int) - n < g.W; have h9 := h40; simp only [Bool.and_eq_true, within_iff] at h9; omega
   refine WC.region (WL.r 4 hs39 [2] rfl (WL.cl Tryz.call224 rfl (k41_ g _ _ (okGridR.st0 f_g hs39) ?_ ?_ ?_ ?_) ?_))
   iterate 4 first | assumption | rfl | omega | (exact Nat.le_trans hsmg (by decide))
   rintro _ whs41 ⟨rfl, hs41⟩
   replace hs41 := hs39.call0 hs41
   refine ⟨_, rfl, WL.r 1 hs41 [] rfl (WL.val rfl rfl rfl (Run.idx Tryz.runUnderlying26 Tryz.sizeOf75 rfl rfl rfl ?_ ?_ ?_) ?_)⟩
   · exact SlF.some_ (SlF.cutC (lo := (y * g.W).toNat) (hi := ((y + 1) * g.W).toNat) (SlF.st0 f_g.Cells hs41) (by refine ⟨?_, ?_, ?_⟩ <;> (omega)))
   · first | omega | (simp only [List.length_set]; omega)
   · first | omega | (simp only [List.length_set]; omega)
   refine WL.val rfl rfl rfl (Run.loadA Tryz.isAgg75 Tryz.sizeOf75 rfl rfl (SlF.whole (SlF.cutC (lo := (y * g.W).toNat) (hi := ((y + 1) * g.W).toNat) (SlF.st0 f_g.Cells hs41) (by refine ⟨?_, ?_, ?_⟩ <;> (omega))) ?_)) ?_
   · first | omega | (simp only [List.length_set]; omega)
   refine WL.val rfl rfl rfl (Run.idx Tryz.runUnderlying26 Tryz.sizeOf75 rfl rfl rfl ?_ ?_ ?_) ?_
   · exact SlF.some_ (SlF.cutC (lo := (y * r14.W).toNat) (hi := ((y + 1) * r14.W).toNat) (SlF.ofOwn ho34 (hs41.ow L32)) (by refine ⟨?_, ?_, ?_⟩ <;> (omega)))
   · first | omega | (simp only [List.length_set]; omega)
   · first | omega | (simp only [List.length_set]; omega)
   refine WL.storeC (x' := _) (lo := (y * r14.W).toNat) (hs41.fr L32) ho34 Tryz.sizeOf75 rfl rfl rfl rfl rfl rfl rfl rfl rfl ?_ rfl (fun L42 whs43 hs43 ho44 _ => ?_)
   · first | omega | (simp only [List.length_set]; omega)
   replace hs43 := St.back [_, _, _] hs43
   refine WL.nil (hK30 _ _ (WC.region (WL.r 3 hs43 [] rfl (WL.nil (tkN ?_)))))
   refine ⟨sbF rfl, _, (hs43.fr L42), _, ?_, a + 1, _, rfl, ?_, ?_, ?_, ho44, ⟨?_, trivial⟩⟩
   · omega
   · omega
   · simp only [List.length_set]; exact p1
   · intro k hk; first | (rw [List.set_set]; exact part_next (g := g.dat) (by rw [hz0, hlo2]; show _ = y.toNat * g.W.toNat + x.toNat + a; omega) (by rw [hz0]; omega) (by rw [shiftF_at (g := g.dat) hx.1 hy.1 (by show x + (a : Int) < g.W; omega), if_pos hin, gat_cut (by omega), hlo2]; rfl) (p2 k hk)) | exact part_next (g := g.dat) (by rw [hz0, hlo2]; show _ = y.toNat * g.W.toNat + x.toNat + a; omega) (by rw [hz0]; omega) (by rw [shiftF_at (g := g.dat) hx.1 hy.1 (by show x + (a : Int) < g.W; omega), if_neg hout]) (p2 k hk)
   · (refine congrArg some (congrArg (Value.int _) ?_); omega)
  have hout : ¬ (x ≤ x + (a : Int) - n ∧ x + (a : Int) - n < g.dat.W) := by show ¬ (x ≤ x + (a : Int) - n ∧ x + (a : Int) - n < g.W); intro h8; have h9 := h40; simp [within] at h9; omega
  refine WC.skip (hK30 _ _ (WC.region (WL.r 3 hs39 [] rfl (WL.nil (tkN ?_)))))
  refine ⟨sbF rfl, _, (hs39.fr L32), _, ?_, a + 1, _, rfl, ?_, ?_, ?_, ho34, ⟨?_, trivial⟩⟩
  · omega
  · omega
  · simp only [List.length_set]; exact p1
  · intro k hk; first | (rw [List.set_set]; exact part_next (g := g.dat) (by rw [hz0, hlo2]; show _ = y.toNat * g.W.toNat + x.toNat + a; omega) (by rw [hz0]; omega) (by rw [shiftF_at (g := g.dat) hx.1 hy.1 (by show x + (a : Int) < g.W; omega), if_pos hin, gat_cut (by omega), hlo2]; rfl) (p2 k hk)) | exact part_next (g := g.dat) (by rw [hz0, hlo2]; show _ = y.toNat * g.W.toNat + x.toNat + a; omega) (by rw [hz0]; omega) (by rw [shiftF_at (g := g.dat) hx.1 hy.1 (by show x + (a : Int) < g.W; omega), if_neg hout]) (p2 k hk)
  · (refine congrArg some (congrArg (Value.int _) ?_); omega)
 refine WC.exit (hK22 _ _ (WC.sr (WL.r 1 hs27 [0] rfl (WL.st tbk hs27 1 rfl rfl (fun _ hs45 => WL.nil (WC.ret (retV1 rfl (resV.cellA tbk hs45 1 rfl rfl rfl rfl) ?_)))))))
 refine ⟨⟨r14.W, r14.H, SlD.of ho26⟩, _, rfl, (St.keep1 (hs45.fr L25)), ?_, ?_⟩
 · exact ho26
 · exact shift_done (g := g.dat) (m := n) hx hy.1 (by show (a : Int) = g.W - x; omega) hrW hrH p1 (.inl rfl) p2
theorem k91_ (b_s : Nat) (s : ScrR) (L_s : Hp) (w : World) (hb_s : w.heap[b_s]? = some (Obj.cells (List.toArray [i64 s.W, i64 s.H, i64 s.Main.W, i64 s.Main.H, .slice s.Main.Cells.A s.Main.Cells.n s.Main.Cells.c, i64 s.Alt.W, i64 s.Alt.H, .slice s.Alt.Cells.A s.Alt.Cells.n s.Alt.Cells.c, .bool s.OnAlt, i64 s.X, i64 s.Y, .bool s.Wrap, i64 s.A.Fg, i64 s.A.Bg, .bool s.A.Bold, .bool s.A.Under, .bool s.A.Turn, i64 s.Top, i64 s.Bot, .bool s.NoWrap, .bool s.Hide, i64 s.SaveX, i64 s.SaveY, i64 s.SaveA.Fg, i64 s.SaveA.Bg, .bool s.SaveA.Bold, .bool s.SaveA.Under, .bool s.SaveA.Turn, .slice s.Tabs.A s.Tabs.n s.Tabs.c, i64 s.Limit, .slice s.Back.A s.Back.n s.Back.c]) 33 (0, 0))) (o_s : ownScrR s L_s) (h_s : Hh w L_s) (hd_ : (b_s :: L_s.map (·.1)).Nodup) :
    Calls Tryz.prog 223 #[.pointer (some ⟨b_s, 0, none⟩)] w fun e w' => ∃ q r L1, e = .returned (.pointer (some ⟨b_s, q, none⟩)) ∧ St w (b_s :: L_s.map (·.1)) ([(b_s, Obj.cells (List.toArray [i64 r.W, i64 r.H, i64 r.Main.W, i64 r.Main.H, .slice r.Main.Cells.A r.Main.Cells.n r.Main.Cells.c, i64 r.Alt.W, i64 r.Alt.H, .slice r.Alt.Cells.A r.Alt.Cells.n r.Alt.Cells.c, .bool r.OnAlt, i64 r.X, i64 r.Y, .bool r.Wrap, i64 r.A.Fg, i64 r.A.Bg, .bool r.A.Bold, .bool r.A.Under, .bool r.A.Turn, i64 r.Top, i64 r.Bot, .bool r.NoWrap, .bool r.Hide, i64 r.SaveX, i64 r.SaveY, i64 r.SaveA.Fg, i64 r.SaveA.Bg, .bool r.SaveA.Bold, .bool r.SaveA.Under, .bool r.SaveA.Turn, .slice r.Tabs.A r.Tabs.n r.Tabs.c, i64 r.Limit, .slice r.Back.A r.Back.n r.Back.c]) 33 (0, 0))] ++ L1) w' ∧ ownScrR r L1 ∧ r.dat = s.dat ∧ (q = 2 ∧ s.OnAlt = false ∨ q = 5 ∧ s.OnAlt = true) := by
 rcases Bool.eq_false_or_eq_true s.OnAlt with hx | hx
 · exact (k48_ b_s s L_s w hb_s o_s h_s hd_ hx).mono fun e w' ⟨r, L1, h1, h2, h3, h4⟩ => ⟨5, r, L1, h1, h2, h3, h4, .inr ⟨rfl, hx⟩⟩
 · exact (k47_ b_s s L_s w hb_s o_s h_s hd_ hx).mono fun e w' ⟨r, L1, h1, h2, h3, h4⟩ => ⟨2, r, L1, h1, h2, h3, h4, .inl ⟨rfl, hx⟩⟩
theorem k92_ (b_s : Nat) (s : ScrR) (L_s : Hp) (A_l : Option Addr) (n_l c_l : Nat) (l : List Int) (b : Int) (w : World) (hb_s : w.heap[b_s]? = some (Obj.cells (List.toArray [i64 s.W, i64 s.H, i64 s.Main.W, i64 s.Main.H, .slice s.Main.Cells.A s.Main.Cells.n s.Main.Cells.c, i64 s.Alt.W, i64 s.Alt.H, .slice s.Alt.Cells.A s.Alt.Cells.n s.Alt.Cells.c, .bool s.OnAlt, i64 s.X, i64 s.Y, .bool s.Wrap, i64 s.A.Fg, i64 s.A.Bg, .bool s.A.Bold, .bool s.A.Under, .bool s.A.Turn, i64 s.Top, i64 s.Bot, .bool s.NoWrap, .bool s.Hide, i64 s.SaveX, i64 s.SaveY, i64 s.SaveA.Fg, i64 s.SaveA.Bg, .bool s.SaveA.Bold, .bool s.SaveA.Under, .bool s.SaveA.Turn, .slice s.Tabs.A s.Tabs.n s.Tabs.c, i64 s.Limit, .slice s.Back.A s.Back.n s.Back.c]) 33 (0, 0))) (o_s : ownScrR s L_s) (h_s : Hh w L_s) (f_l : SlF encI w A_l n_l l) (hd_ : (b_s :: L_s.map (·.1)).Nodup) (s_l : 0 < n_l → (adr A_l).block ∉ (b_s :: L_s.map (·.1))) (hf : ScrFine s.dat) (hsm : smScr 1048576 s.dat) (hl : areArgs l = true) (hll : n_l ≤ 549755813888) :
    Calls Tryz.prog 189 #[.pointer (some ⟨b_s, 0, none⟩), .slice A_l n_l c_l, i64 b] w fun e w' => ∃ r L1, e = .returned (.tuple #[]) ∧ St w (b_s :: L_s.map (·.1)) ([(b_s, Obj.cells (List.toArray [i64 r.W, i64 r.H, i64 r.Main.W, i64 r.Main.H, .slice r.Main.Cells.A r.Main.Cells.n r.Main.Cells.c, i64 r.Alt.W, i64 r.Alt.H, .slice r.Alt.Cells.A r.Alt.Cells.n r.Alt.Cells.c, .bool r.OnAlt, i64 r.X, i64 r.Y, .bool r.Wrap, i64 r.A.Fg, i64 r.A.Bg, .bool r.A.Bold, .bool r.A.Under, .bool r.A.Turn, i64 r.Top, i64 r.Bot, .bool r.NoWrap, .bool r.Hide, i64 r.SaveX, i64 r.SaveY, i64 r.SaveA.Fg, i64 r.SaveA.Bg, .bool r.SaveA.Bold, .bool r.SaveA.Under, .bool r.SaveA.Turn, .slice r.Tabs.A r.Tabs.n r.Tabs.c, i64 r.Limit, .slice r.Back.A r.Back.n r.Back.c]) 33 (0, 0))] ++ L1) w' ∧ ownScrR r L1 ∧ r.dat = csiD s.dat l b := by
 have hsmB : smScr 549755813888 s.dat := smScr_mono hsm (by decide)
 have ha0 := argI_pos (k := 0) (d := 1) hl (by omega)
 have ha1 := argI_bnd (k := 1) (d := 1) hl (by omega)
 have hk0 := argI_bnd (k := 0) (d := 0) hl (by omega)
 refine enter 196 Tryz.func189 rfl Tryz.ntmps189 rfl rfl ?_
 have hs1 := St.takeP w b_s _ L_s hb_s h_s hd_
 refine WC.sr (WL.bx hs1 rfl (fun b2 _ hs3 => WL.nil (WC.sr (WL.r 1 hs3 [] rfl ?_))))
 refine WL.cl Tryz.call233 rfl (k79_ _ _ _ _ _ _ (SlF.st f_l hs3 s_l) ?_) ?_
 · first | assumption | rfl | omega | (refine ⟨?_, ?_, ?_, ?_⟩ <;> omega) | (constructor <;> omega)
 rintro _ whs4 ⟨rfl, hs4⟩
 replace hs4 := hs3.call0 hs4
 refine ⟨_, rfl, WL.r 1 hs4 [] rfl (WL.cl Tryz.call233 rfl (k80_ _ _ _ _ _ _ (SlF.st f_l hs4 s_l) ?_) ?_)⟩
 · first | assumption | rfl | omega | (refine ⟨?_, ?_, ?_, ?_⟩ <;> omega) | (constructor <;> omega)
 rintro _ whs5 ⟨rfl, hs5⟩
 replace hs5 := hs4.call0 hs5
 refine ⟨_, rfl, WL.r 1 hs5 [] rfl (WL.cl Tryz.call233 rfl (k79_ _ _ _ _ _ _ (SlF.st f_l hs5 s_l) ?_) ?_)⟩
 · first | assumption | rfl | omega | (refine ⟨?_, ?_, ?_, ?_⟩ <;> omega) | (constructor <;> omega)
 rintro _ whs6 ⟨rfl, hs6⟩
 replace hs6 := hs5.call0 hs6
 refine ⟨_, rfl, WL.r 3 hs6 [] rfl (WL.nil (WC.seq (fun K7 hK7 => WC.sr (WL.r 4 hs6 [0] rfl ?_))))⟩
 have hF8 := ((hs6.fr L_s).fb b_s)
 refine WL.cl Tryz.call234 rfl (k82_ _ s _ _ _ _ _ (St.headP hF8) o_s (St.ownP hF8) (St.nodupP hF8) ?_ ?_ ?_) ?_
 iterate 3 first | assumption | rfl | omega | (refine ⟨?_, ?_, ?_, ?_⟩ <;> omega) | (constructor <;> omega)
 rintro _ whs9 ⟨r10, L11, rfl, hs9, ho12, hd13⟩
 replace hs9 := St.lendP hF8 hs9
 refine ⟨_, rfl, ?_⟩
 have hs14 := ((hs9.fb b2).fb b_s)
 refine WL.nil (WC.cq rfl (fun h15 qh15 => ?_) (fun h15 qh15 => ?_))
 ·have hmv : isMove b = true := by have h9 := h15; simpa using h9
  refine WC.ret (tkR ?_)
  clear hK7
  refine retK0' rfl (⟨r10, _, rfl, St.keepP (L1 := L11) ((hs14.fr L11).fb b_s), ho12, ?_⟩)
  · exact hd13.trans (csiD_move hmv).symm
 have hmv : isMove b = false := by have h9 := h15; simpa using h9
 obtain ⟨e65, e66, e67, e68, e71, e100, e7⟩ := isMove_no hmv
 have hr1 : r10.dat = s.dat := hd13.trans (moveByD_no hmv)
 have hs1 : smScr 549755813888 r10.dat := hr1.symm ▸ hsmB
 refine WC.skip (hK7 _ _ (WC.sr (WL.r 1 hs14 [1] rfl ?_)))
 have hF16 := ((hs14.fr L11).fb b_s)
 refine WL.cl Tryz.call223 rfl (k91_ _ r10 _ _ (St.headP hF16) ho12 (St.ownP hF16) (St.nodupP hF16)) ?_
 rintro _ whs17 ⟨q22, r18, L19, rfl, hs17, ho20, hd21, hO23⟩
 replace hs17 := St.lendP hF16 hs17
 refine ⟨_, rfl, ?_⟩
 have hs24 := ((hs17.fb b2).fb b_s)
 have hr2 : r18.dat = s.dat := hd21.trans hr1
 have hf2 : ScrFine r18.dat := hr2.symm ▸ hf
 have hsm2 : smScr 1048576 r18.dat := hr2.symm ▸ hsm
 have hsB2 : smScr 549755813888 r18.dat := hr2.symm ▸ hsmB
 skip
 have hwh2 : (1 ≤ r18.W ∧ r18.W ≤ 120) ∧ (1 ≤ r18.H ∧ r18.H ≤ 120) ∧ 1 ≤ r18.W * r18.H ∧ r18.W * r18.H ≤ 4000 := isSize_bnd hf2.size
 have hxy2 : (0 ≤ r18.X ∧ r18.X < r18.W) ∧ 0 ≤ r18.Y ∧ r18.Y < r18.H := hf2.pos
 have hrg2 : (0 ≤ r18.Top ∧ r18.Top ≤ r18.Bot) ∧ r18.Bot < r18.H := ⟨hf2.reg.1, hf2.reg.2.1⟩
 have hv0 : 0 ≤ r18.Y * r18.W := Int.mul_nonneg (by omega) (by omega)
 have hv1 : (r18.Y + 1) * r18.W = r18.Y * r18.W + r18.W := by rw [Int.add_mul, Int.one_mul]
 have hv2 : (r18.Y + 1) * r18.W ≤ r18.H * r18.W := Int.mul_le_mul_of_nonneg_right (by omega) (by omega)
 rw [Int.mul_comm r18.H r18.W] at hv2
 have hgs2 : gridOk (shownD r18.dat) = true := hf2.shown.1
 have hsh2 : (shownD r18.dat).W = r18.W ∧ (shownD r18.dat).H = r18.H := hf2.shown.2
 have hts2 : 0 ≤ r18.Top ∧ r18.Top ≤ r18.Bot ∧ r18.Bot < (shownD r18.dat).H := by rw [hsh2.2]; omega
 have hTs2 : r18.Tabs.xs.length ≤ 1048576 := hsm2.2.2.1
 refine WL.r 1 hs24 [] rfl (WL.nil (WC.r1 hs24 [] rfl (WC.block (WC.seq (fun K25 hK25 => WC.r1 hs24 [] rfl ?_)))))
 refine WC.cq rfl (fun h26 qh26 => ?_) (fun h26 qh26 => ?_)
 ·have e74 : b = 74 := by have h9 := h26; simpa using h9
  refine WC.skip (hK25 _ _ (WC.condT rfl h26 (WC.region (WL.r 4 hs24 [1] rfl ?_))))
  have hF28 := ((hs24.fr L19).fb b_s)
  refine WL.cl Tryz.call235 rfl (k89_ _ r18 _ _ _ _ (St.headP hF28) ho20 (St.ownP hF28) (St.nodupP hF28) ?_ ?_) ?_
  iterate 2 first | assumption | rfl | omega | (refine ⟨?_, ?_, ?_, ?_⟩ <;> omega) | (constructor <;> omega)
  rintro _ whs29 ⟨r30, L31, rfl, hs29, ho32, hd33⟩
  replace hs29 := St.lendP hF28 hs29
  refine ⟨_, rfl, ?_⟩
  have hs34 := ((hs29.fb b2).fb b_s)
  refine WL.nil (ibN (retK0 rfl (⟨r30, _, rfl, St.keepP (L1 := L31) ((hs34.fr L31).fb b_s), ho32, ?_⟩)))
  · rw [← hr2]; unfold csiD; rw [if_neg e65, if_neg e66, if_neg e67, if_neg e68, if_neg e71, if_neg e100, if_neg e7, if_pos e74]; exact hd33.trans (by rw [if_neg (by simp; omega), if_neg (by simp; omega)]; rfl)
 have e74 : ¬ b = 74 := by have h9 := h26; simpa using h9
 refine WC.region (WL.r 2 hs24 [] rfl (WL.nil (hK25 _ _ ?_)))
 refine WC.cq rfl (fun h35 qh35 => ?_) (fun h35 qh35 => ?_)
 ·have e75 : b = 75 := by have h9 := h35; simpa using h9
  refine WC.region (WL.r 4 hs24 [1] rfl ?_)
  have hF36 := ((hs24.fr L19).fb b_s)
  refine WL.cl Tryz.call235 rfl (k89_ _ r18 _ _ _ _ (St.headP hF36) ho20 (St.ownP hF36) (St.nodupP hF36) ?_ ?_) ?_
  iterate 2 first | assumption | rfl | omega | (refine ⟨?_, ?_, ?_, ?_⟩ <;> omega) | (constructor <;> omega)
  rintro _ whs37 ⟨r38, L39, rfl, hs37, ho40, hd41⟩
  replace hs37 := St.lendP hF36 hs37
  refine ⟨_, rfl, ?_⟩
  have hs42 := ((hs37.fb b2).fb b_s)
  refine WL.nil (ibN (retK0 rfl (⟨r38, _, rfl, St.keepP (L1 := L39) ((hs42.fr L39).fb b_s), ho40, ?_⟩)))
  · rw [← hr2]; unfold csiD; rw [if_neg e65, if_neg e66, if_neg e67, if_neg e68, if_neg e71, if_neg e100, if_neg e7, if_neg e74, if_pos e75]; exact hd41.trans (by rw [if_pos (by simp; omega), if_pos (by simp; omega)]; rfl)
 have e75 : ¬ b = 75 := by have h9 := h35; simpa using h9
 refine WC.r1 hs24 [] rfl (WC.cq rfl (fun h43 qh43 => ?_) (fun h43 qh43 => ?_))
 ·have e88 : b = 88 := by have h9 := h43; simpa using h9
  refine WC.q1 hs24 [1, 0, 1, 0, 1, 0] rfl (fun _ hs44 => WC.rG 16 (hs44.d1.rm L19) hs44 hs44 (fun _ hs45 => ?_))
  refine WG.rn [0, 1, 2, 3, 4, 5, 6, 7, 8, 9, 10, 11, 12, 13, 14, 15] hs45 [1, 1, 0, 1, 0] rfl rfl (WG.oK rfl ?_)
  have hF46 := ((hs45.fr L19).fb b_s)
  refine WL.cl Tryz.call236 rfl (k88_ _ r18 _ _ _ _ (St.headP hF46) ho20 (St.ownP hF46) (St.nodupP hF46) ?_ ?_ ?_) ?_
  iterate 3 first | assumption | rfl | omega | (refine ⟨?_, ?_, ?_, ?_⟩ <;> omega) | (constructor <;> omega)
  rintro _ whs47 ⟨r48, L49, rfl, hs47, ho50, hd51⟩
  replace hs47 := St.lendP hF46 hs47
  refine ⟨_, rfl, ?_⟩
  have hs52 := ((hs47.fb b2).fb b_s)
  refine WL.nil ⟨(hs52.d1.rm L49), WH.dn (ibN (retK0 rfl (⟨r48, _, rfl, St.keepP (L1 := L49) ((hs52.fr L49).fb b_s), ho50, ?_⟩)))⟩
  · rw [← hr2]; unfold csiD; rw [if_neg e65, if_neg e66, if_neg e67, if_neg e68, if_neg e71, if_neg e100, if_neg e7, if_neg e74, if_neg e75, if_pos e88]; exact hd51
 have e88 : ¬ b = 88 := by have h9 := h43; simpa using h9
 refine WC.r1 hs24 [] rfl (WC.cq rfl (fun h53 qh53 => ?_) (fun h53 qh53 => ?_))
 ·have e64 : b = 64 := by have h9 := h53; simpa using h9
  rcases hO23 with ⟨rfl, hx1⟩ | ⟨rfl, hx1⟩
  ·have hx2 : r18.OnAlt = false := (congrArg ScrD.OnAlt hd21).trans hx1
   have hfd : shownD r18.dat = r18.Main.dat := by unfold shownD; rw [if_neg (show ¬ r18.dat.OnAlt = true from by show ¬ r18.OnAlt = true; rw [hx2]; decide)]; rfl
   have hgd2 : gridOk r18.Main.dat = true := hfd ▸ hgs2
   have hgw2 : r18.Main.W = r18.W ∧ r18.Main.H = r18.H := ⟨(congrArg GridD.W hfd).symm.trans hsh2.1, (congrArg GridD.H hfd).symm.trans hsh2.2⟩
   refine WC.rG 15 hs24.d1 hs24 hs24 (fun _ hs54 => ?_)
   refine WG.rn [0, 1, 2, 3, 4, 5, 6, 7, 8, 9, 10, 11, 12] hs54 [0, 1, 0, 1, 0] rfl rfl (WG.o1 13 rfl rfl ?_)
   refine WL.cl Tryz.call237 rfl (k90_ r18.Main _ _ _ _ (ownScrR.ok (B := 549755813888) ho20 (hs54.ow L19) (by rw [hd21]; assumption)).Main ?_ ?_ ?_ ?_) ?_
   iterate 4 first | assumption | rfl | omega | (refine ⟨?_, ?_, ?_, ?_⟩ <;> omega) | (constructor <;> omega)
   rintro _ whs55 ⟨r56, L1_57, rfl, hs55, ho58, hd59⟩
   replace hs55 := hs54.callF hs55
   refine ⟨_, rfl, ?_⟩
   replace hs55 := St.back [_, _] hs55
   have hsf := hd59
   refine WL.nil ⟨(hs55.rm L1_57), WG.rn [14] (hs55.rm L1_57) [] rfl rfl (WG.oK rfl (WL.st tbk hs55 0 rfl rfl (fun _ hs60 => WL.nil ⟨(hs60.d1.rm L1_57), WH.dn (ibN (retK0 rfl ?_))⟩)))⟩
   obtain ⟨L61, L62, L63, L64, hs69, ho65, ho66, ho67, ho68⟩ := ownScrR.op hs60 ho20
   have hs70 := ((hs69.fb b2).fb b_s)
   obtain ⟨L72, hs71, ho73⟩ := ownScrR.fl hs70 ho58 ho66 ho67 ho68
   have hs74 := ((hs71.fb b2).fb b_s)
   refine ownScrR.retp rfl ((hs74.fr L72).fb b_s) ho73 ?_
   · rw [← hr2]; unfold csiD; rw [if_neg e65, if_neg e66, if_neg e67, if_neg e68, if_neg e71, if_neg e100, if_neg e7, if_neg e74, if_neg e75, if_neg e88, if_pos e64]; show _ = putD r18.dat (gShift (shownD r18.dat) r18.X r18.Y (argI l 0 1)); rw [show putD r18.dat (gShift (shownD r18.dat) r18.X r18.Y (argI l 0 1)) = { r18.dat with Main := gShift r18.Main.dat r18.X r18.Y (argI l 0 1) } from by rw [hfd]; unfold putD; rw [if_neg (show ¬ r18.dat.OnAlt = true from by show ¬ r18.OnAlt = true; rw [hx2]; decide)]]; exact ScrD.ext' rfl rfl (hsf) rfl rfl rfl rfl rfl rfl rfl rfl rfl rfl rfl rfl rfl rfl rfl rfl
  have hx2 : r18.OnAlt = true := (congrArg ScrD.OnAlt hd21).trans hx1
  have hfd : shownD r18.dat = r18.Alt.dat := by unfold shownD; rw [if_pos (show  r18.dat.OnAlt = true from by show  r18.OnAlt = true; rw [hx2])]; rfl
  have hgd2 : gridOk r18.Alt.dat = true := hfd ▸ hgs2
  have hgw2 : r18.Alt.W = r18.W ∧ r18.Alt.H = r18.H := ⟨(congrArg GridD.W hfd).symm.trans hsh2.1, (congrArg GridD.H hfd).symm.trans hsh2.2⟩
  refine WC.rG 15 hs24.d1 hs24 hs24 (fun _ hs75 => ?_)
  refine WG.rn [0, 1, 2, 3, 4, 5, 6, 7, 8, 9, 10, 11, 12] hs75 [0, 1, 0, 1, 0] rfl rfl (WG.o1 13 rfl rfl ?_)
  refine WL.cl Tryz.call237 rfl (k90_ r18.Alt _ _ _ _ (ownScrR.ok (B := 549755813888) ho20 (hs75.ow L19) (by rw [hd21]; assumption)).Alt ?_ ?_ ?_ ?_) ?_
  iterate 4 first | assumption | rfl | omega | (refine ⟨?_, ?_, ?_, ?_⟩ <;> omega) | (constructor <;> omega)
  rintro _ whs76 ⟨r77, L1_78, rfl, hs76, ho79, hd80⟩
  replace hs76 := hs75.callF hs76
  refine ⟨_, rfl, ?_⟩
  replace hs76 := St.back [_, _] hs76
  have hsf := hd80
  refine WL.nil ⟨(hs76.rm L1_78), WG.rn [14] (hs76.rm L1_78) [] rfl rfl (WG.oK rfl (WL.st tbk hs76 0 rfl rfl (fun _ hs81 => WL.nil ⟨(hs81.d1.rm L1_78), WH.dn (ibN (retK0 rfl ?_))⟩)))⟩
  obtain ⟨L82, L83, L84, L85, hs90, ho86, ho87, ho88, ho89⟩ := ownScrR.op hs81 ho20
  have hs91 := ((hs90.fb b2).fb b_s)
  obtain ⟨L93, hs92, ho94⟩ := ownScrR.fl hs91 ho86 ho79 ho88 ho89
  have hs95 := ((hs92.fb b2).fb b_s)
  refine ownScrR.retp rfl ((hs95.fr L93).fb b_s) ho94 ?_
  · rw [← hr2]; unfold csiD; rw [if_neg e65, if_neg e66, if_neg e67, if_neg e68, if_neg e71, if_neg e100, if_neg e7, if_neg e74, if_neg e75, if_neg e88, if_pos e64]; show _ = putD r18.dat (gShift (shownD r18.dat) r18.X r18.Y (argI l 0 1)); rw [show putD r18.dat (gShift (shownD r18.dat) r18.X r18.Y (argI l 0 1)) = { r18.dat with Alt := gShift r18.Alt.dat r18.X r18.Y (argI l 0 1) } from by rw [hfd]; unfold putD; rw [if_pos (show  r18.dat.OnAlt = true from by show  r18.OnAlt = true; rw [hx2])]]; exact ScrD.ext' rfl rfl rfl (hsf) rfl rfl rfl rfl rfl rfl rfl rfl rfl rfl rfl rfl rfl rfl rfl
 have e64 : ¬ b = 64 := by have h9 := h53; simpa using h9
 refine WC.r1 hs24 [] rfl (WC.cq rfl (fun h96 qh96 => ?_) (fun h96 qh96 => ?_))
 ·have e80 : b = 80 := by have h9 := h96; simpa using h9
  rcases hO23 with ⟨rfl, hx1⟩ | ⟨rfl, hx1⟩
  ·have hx2 : r18.OnAlt = false := (congrArg ScrD.OnAlt hd21).trans hx1
   have hfd : shownD r18.dat = r18.Main.dat := by unfold shownD; rw [if_neg (show ¬ r18.dat.OnAlt = true from by show ¬ r18.OnAlt = true; rw [hx2]; decide)]; rfl
   have hgd2 : gridOk r18.Main.dat = true := hfd ▸ hgs2
   have hgw2 : r18.Main.W = r18.W ∧ r18.Main.H = r18.H := ⟨(congrArg GridD.W hfd).symm.trans hsh2.1, (congrArg GridD.H hfd).symm.trans hsh2.2⟩
   refine WC.rG 16 hs24.d1 hs24 hs24 (fun _ hs97 => ?_)
   refine WG.rn [0, 1, 2, 3, 4, 5, 6, 7, 8, 9, 10, 11, 12, 13] hs97 [0, 1, 0, 1, 0] rfl rfl (WG.o1 14 rfl rfl ?_)
   refine WL.cl Tryz.call237 rfl (k90_ r18.Main _ _ _ _ (ownScrR.ok (B := 549755813888) ho20 (hs97.ow L19) (by rw [hd21]; assumption)).Main ?_ ?_ ?_ ?_) ?_
   iterate 4 first | assumption | rfl | omega | (refine ⟨?_, ?_, ?_, ?_⟩ <;> omega) | (constructor <;> omega)
   rintro _ whs98 ⟨r99, L1_100, rfl, hs98, ho101, hd102⟩
   replace hs98 := hs97.callF hs98
   refine ⟨_, rfl, ?_⟩
   replace hs98 := St.back [_, _] hs98
   have hsf := hd102
   refine WL.nil ⟨(hs98.rm L1_100), WG.rn [15] (hs98.rm L1_100) [] rfl rfl (WG.oK rfl (WL.st tbk hs98 0 rfl rfl (fun _ hs103 => WL.nil ⟨(hs103.d1.rm L1_100), WH.dn (ibN (retK0 rfl ?_))⟩)))⟩
   obtain ⟨L104, L105, L106, L107, hs112, ho108, ho109, ho110, ho111⟩ := ownScrR.op hs103 ho20
   have hs113 := ((hs112.fb b2).fb b_s)
   obtain ⟨L115, hs114, ho116⟩ := ownScrR.fl hs113 ho101 ho109 ho110 ho111
   have hs117 := ((hs114.fb b2).fb b_s)
   refine ownScrR.retp rfl ((hs117.fr L115).fb b_s) ho116 ?_
   · rw [← hr2]; unfold csiD; rw [if_neg e65, if_neg e66, if_neg e67, if_neg e68, if_neg e71, if_neg e100, if_neg e7, if_neg e74, if_neg e75, if_neg e88, if_neg e64, if_pos e80]; show _ = putD r18.dat (gShift (shownD r18.dat) r18.X r18.Y (-argI l 0 1)); rw [show putD r18.dat (gShift (shownD r18.dat) r18.X r18.Y (-argI l 0 1)) = { r18.dat with Main := gShift r18.Main.dat r18.X r18.Y (-argI l 0 1) } from by rw [hfd]; unfold putD; rw [if_neg (show ¬ r18.dat.OnAlt = true from by show ¬ r18.OnAlt = true; rw [hx2]; decide)]]; exact ScrD.ext' rfl rfl (hsf) rfl rfl rfl rfl rfl rfl rfl rfl rfl rfl rfl rfl rfl rfl rfl rfl
  have hx2 : r18.OnAlt = true := (congrArg ScrD.OnAlt hd21).trans hx1
  have hfd : shownD r18.dat = r18.Alt.dat := by unfold shownD; rw [if_pos (show  r18.dat.OnAlt = true from by show  r18.OnAlt = true; rw [hx2])]; rfl
  have hgd2 : gridOk r18.Alt.dat = true := hfd ▸ hgs2
  have hgw2 : r18.Alt.W = r18.W ∧ r18.Alt.H = r18.H := ⟨(congrArg GridD.W hfd).symm.trans hsh2.1, (congrArg GridD.H hfd).symm.trans hsh2.2⟩
  refine WC.rG 16 hs24.d1 hs24 hs24 (fun _ hs118 => ?_)
  refine WG.rn [0, 1, 2, 3, 4, 5, 6, 7, 8, 9, 10, 11, 12, 13] hs118 [0, 1, 0, 1, 0] rfl rfl (WG.o1 14 rfl rfl ?_)
  refine WL.cl Tryz.call237 rfl (k90_ r18.Alt _ _ _ _ (ownScrR.ok (B := 549755813888) ho20 (hs118.ow L19) (by rw [hd21]; assumption)).Alt ?_ ?_ ?_ ?_) ?_
  iterate 4 first | assumption | rfl | omega | (refine ⟨?_, ?_, ?_, ?_⟩ <;> omega) | (constructor <;> omega)
  rintro _ whs119 ⟨r120, L1_121, rfl, hs119, ho122, hd123⟩
  replace hs119 := hs118.callF hs119
  refine ⟨_, rfl, ?_⟩
  replace hs119 := St.back [_, _] hs119
  have hsf := hd123
  refine WL.nil ⟨(hs119.rm L1_121), WG.rn [15] (hs119.rm L1_121) [] rfl rfl (WG.oK rfl (WL.st tbk hs119 0 rfl rfl (fun _ hs124 => WL.nil ⟨(hs124.d1.rm L1_121), WH.dn (ibN (retK0 rfl ?_))⟩)))⟩
  obtain ⟨L125, L126, L127, L128, hs133, ho129, ho130, ho131, ho132⟩ := ownScrR.op hs124 ho20
  have hs134 := ((hs133.fb b2).fb b_s)
  obtain ⟨L136, hs135, ho137⟩ := ownScrR.fl hs134 ho129 ho122 ho131 ho132
  have hs138 := ((hs135.fb b2).fb b_s)
  refine ownScrR.retp rfl ((hs138.fr L136).fb b_s) ho137 ?_
  · rw [← hr2]; unfold csiD; rw [if_neg e65, if_neg e66, if_neg e67, if_neg e68, if_neg e71, if_neg e100, if_neg e7, if_neg e74, if_neg e75, if_neg e88, if_neg e64, if_pos e80]; show _ = putD r18.dat (gShift (shownD r18.dat) r18.X r18.Y (-argI l 0 1)); rw [show putD r18.dat (gShift (shownD r18.dat) r18.X r18.Y (-argI l 0 1)) = { r18.dat with Alt := gShift r18.Alt.dat r18.X r18.Y (-argI l 0 1) } from by rw [hfd]; unfold putD; rw [if_pos (show  r18.dat.OnAlt = true from by show  r18.OnAlt = true; rw [hx2])]]; exact ScrD.ext' rfl rfl rfl (hsf) rfl rfl rfl rfl rfl rfl rfl rfl rfl rfl rfl rfl rfl rfl rfl
 have e80 : ¬ b = 80 := by have h9 := h96; simpa using h9
 refine WC.seq (fun K139 hK139 => WC.r1 hs24 [] rfl ?_)
 refine WC.cq rfl (fun h140 qh140 => ?_) (fun h140 qh140 => ?_)
 ·have e76 : b = 76 := by have h9 := h140; simpa using h9
  refine WC.skip (hK139 _ _ (WC.condT rfl h140 (WC.sq1 hs24 (WQ.r 12 [1, 0, 1, 0, 1, 0] rfl ?_))))
  refine WQ.call rfl rfl rfl (fun w_ hs_ => (Run.call Tryz.call97 rfl rfl rfl)) (fun w_ hs_ => (k0_ _ _ _ _).mono fun e_ w_ h_ => ⟨h_.1, (hs_ : St _ _ _ _).call0 h_.2⟩) ?_
  refine WQ.nil (fun _ (hs142 : St _ _ _ _) => ?_)
  refine WC.cq rfl (fun h143 qh143 => ?_) (fun h143 qh143 => ?_)
  ·have hwi : within r18.dat.Y r18.dat.Top r18.dat.Bot = true := h143
   have hwj := within_iff.1 hwi
   have htl : 0 ≤ r18.Y ∧ r18.Y ≤ r18.Bot ∧ r18.Bot < (shownD r18.dat).H := by rw [hsh2.2]; simp only [ScrR.dat] at hwj; omega
   refine WC.seq (fun K144 hK144 => WC.rG 19 (hs142.d1.rm L19) hs142 hs142 (fun _ hs145 => ?_))
   refine WG.rn [0, 1, 2, 3, 4, 5, 6, 7, 8, 10, 11, 13, 16, 17] hs145 [1, 1, 0, 1, 0] rfl rfl (WG.o1 9 rfl rfl (WL.makeMap hs145 rfl rfl rfl rfl (fun b146 whs147 hs147 => WL.nil ⟨hs147.d1, ?_⟩)))
   refine WG.all [12, 14] (by kernel_rfl) rfl (WGs.cons (i := 12) rfl rfl ?_ (WGs.cons (i := 14) rfl rfl ?_ WGs.nil))
   ·refine WL.mapPut hs147 0 rfl Tryz.underlying230 Tryz.underlying4 rfl rfl rfl rfl rfl rfl rfl ?_ ?_ (fun whs148 hs148 => ?_)
    · trivial
    · rfl
    refine WL.nil ⟨hs148.d1, WG.o1 14 rfl rfl (WL.mapPut hs148 0 rfl Tryz.underlying230 Tryz.underlying4 rfl rfl rfl rfl rfl rfl rfl ?_ ?_ (fun whs149 hs149 => ?_))⟩
    · trivial
    · rfl
    refine WL.nil ⟨hs149.d1, WG.rn [15] hs149.d1 [] rfl rfl (WG.o1 18 rfl rfl (WL.val rfl rfl rfl (Run.mapGet (v := i64 (-argI l 0 1)) Tryz.underlying230 Tryz.underlying4 rfl rfl rfl (hs149.own _ (nthL_mem (i := 0) rfl)).1 ?_ ?_) ?_))⟩
    · trivial
    · rw [show decide (b = 76) = true from decide_eq_true e76]; exact ⟨_, rfl⟩
    refine WL.nil ⟨hs149.d1, WG.oK rfl ?_⟩
    have hF150 := ((hs149.fr L19).fb b_s)
    refine WL.cl Tryz.call210 rfl (k58_ _ r18 _ _ _ _ _ (St.headP hF150) ho20 (St.ownP hF150) (St.nodupP hF150) ?_ ?_ ?_ ?_) ?_
    iterate 4 first | assumption | rfl | omega | (refine ⟨?_, ?_, ?_, ?_⟩ <;> omega) | (constructor <;> omega)
    rintro _ whs151 ⟨r152, L153, rfl, hs151, ho154, hd155⟩
    replace hs151 := St.lendP hF150 hs151
    refine ⟨_, rfl, ?_⟩
    have hs156 := (((hs151.fb b2).fb b146).fb b_s)
    have hrl := hd155
    refine WL.nil ⟨(hs156.d1.d1.rm L153), WH.dn (hK144 _ _ (WC.rG 4 hs156.d1 hs156 hs156 (fun _ hs157 => ?_)))⟩
    refine WG.rn [0, 2, 3] hs157 [2] rfl rfl (WG.all [1, 4] (by kernel_rfl) rfl (WGs.cons (i := 1) rfl rfl ?_ (WGs.consK rfl ?_ WGs.nil)))
    ·refine WL.r 1 hs157 [2] rfl (WL.nil ⟨hs157, WG.oK rfl (WL.st tbk hs157 0 rfl rfl (fun _ hs158 => WL.nil ⟨hs158.d1, WH.rn [5, 6] hs158.d1 [] rfl rfl (WH.o1 7 rfl (WL.st tbk hs158 0 rfl rfl (fun _ hs159 => ?_)))⟩))⟩)
     refine WL.nil ⟨hs159.d1, WH.dn (ibN (retK0 rfl ?_))⟩
     obtain ⟨L160, L161, L162, L163, hs168, ho164, ho165, ho166, ho167⟩ := ownScrR.op hs159 ho154
     have hs169 := (((hs168.fb b2).fb b146).fb b_s)
     obtain ⟨L171, hs170, ho172⟩ := ownScrR.fl hs169 ho164 ho165 ho166 ho167
     have hs173 := (((hs170.fb b2).fb b146).fb b_s)
     refine ownScrR.retp rfl ((hs173.fr L171).fb b_s) ho172 ?_
     · rw [← hr2]; unfold csiD; rw [if_neg e65, if_neg e66, if_neg e67, if_neg e68, if_neg e71, if_neg e100, if_neg e7, if_neg e74, if_neg e75, if_neg e88, if_neg e64, if_neg e80, if_pos e76]; unfold linesD; rw [if_pos hwi]; show _ = ({ rollD r18.dat r18.Y r18.Bot (-argI l 0 1) with X := 0, Wrap := false } : ScrD); rw [← hrl]; rfl
    refine WL.st tbk hs157 0 rfl rfl (fun _ hs174 => WL.nil ⟨hs174.d1, WH.rn [1, 5, 6] hs174.d1 [1] rfl rfl (WH.o1 7 rfl (WL.st tbk hs174 0 rfl rfl (fun _ hs175 => WL.nil ⟨hs175.d1, WH.dn (ibN ?_)⟩)))⟩)
    refine retK0 rfl ?_
    obtain ⟨L176, L177, L178, L179, hs184, ho180, ho181, ho182, ho183⟩ := ownScrR.op hs175 ho154
    have hs185 := (((hs184.fb b2).fb b146).fb b_s)
    obtain ⟨L187, hs186, ho188⟩ := ownScrR.fl hs185 ho180 ho181 ho182 ho183
    have hs189 := (((hs186.fb b2).fb b146).fb b_s)
    refine ownScrR.retp rfl ((hs189.fr L187).fb b_s) ho188 ?_
    · rw [← hr2]; unfold csiD; rw [if_neg e65, if_neg e66, if_neg e67, if_neg e68, if_neg e71, if_neg e100, if_neg e7, if_neg e74, if_neg e75, if_neg e88, if_neg e64, if_neg e80, if_pos e76]; unfold linesD; rw [if_pos hwi]; show _ = ({ rollD r18.dat r18.Y r18.Bot (-argI l 0 1) with X := 0, Wrap := false } : ScrD); rw [← hrl]; rfl
   refine WL.mapPut hs147 0 rfl Tryz.underlying230 Tryz.underlying4 rfl rfl rfl rfl rfl rfl rfl ?_ ?_ (fun whs190 hs190 => ?_)
   · trivial
   · rfl
   refine WL.nil ⟨hs190.d1, WG.o1 12 rfl rfl (WL.mapPut hs190 0 rfl Tryz.underlying230 Tryz.underlying4 rfl rfl rfl rfl rfl rfl rfl ?_ ?_ (fun whs191 hs191 => ?_))⟩
   · trivial
   · rfl
   refine WL.nil ⟨hs191.d1, WG.rn [15] hs191.d1 [] rfl rfl (WG.o1 18 rfl rfl (WL.val rfl rfl rfl (Run.mapGet (v := i64 (-argI l 0 1)) Tryz.underlying230 Tryz.underlying4 rfl rfl rfl (hs191.own _ (nthL_mem (i := 0) rfl)).1 ?_ ?_) ?_))⟩
   · trivial
   · rw [show decide (b = 76) = true from decide_eq_true e76]; exact ⟨_, rfl⟩
   refine WL.nil ⟨hs191.d1, WG.oK rfl ?_⟩
   have hF192 := ((hs191.fr L19).fb b_s)
   refine WL.cl Tryz.call210 rfl (k58_ _ r18 _ _ _ _ _ (St.headP hF192) ho20 (St.ownP hF192) (St.nodupP hF192) ?_ ?_ ?_ ?_) ?_
   iterate 4 first | assumption | rfl | omega | (refine ⟨?_, ?_, ?_, ?_⟩ <;> omega) | (constructor <;> omega)
   rintro _ whs193 ⟨r194, L195, rfl, hs193, ho196, hd197⟩
   replace hs193 := St.lendP hF192 hs193
   refine ⟨_, rfl, ?_⟩
   have hs198 := (((hs193.fb b2).fb b146).fb b_s)
   have hrl := hd197
   refine WL.nil ⟨(hs198.d1.d1.rm L195), WH.dn (hK144 _ _ (WC.rG 4 hs198.d1 hs198 hs198 (fun _ hs199 => ?_)))⟩
   refine WG.rn [0, 2, 3] hs199 [2] rfl rfl (WG.all [1, 4] (by kernel_rfl) rfl (WGs.cons (i := 1) rfl rfl ?_ (WGs.consK rfl ?_ WGs.nil)))
   ·refine WL.r 1 hs199 [2] rfl (WL.nil ⟨hs199, WG.oK rfl (WL.st tbk hs199 0 rfl rfl (fun _ hs200 => WL.nil ⟨hs200.d1, WH.rn [5, 6] hs200.d1 [] rfl rfl (WH.o1 7 rfl (WL.st tbk hs200 0 rfl rfl (fun _ hs201 => ?_)))⟩))⟩)
    refine WL.nil ⟨hs201.d1, WH.dn (ibN (retK0 rfl ?_))⟩
    obtain ⟨L202, L203, L204, L205, hs210, ho206, ho207, ho208, ho209⟩ := ownScrR.op hs201 ho196
    have hs211 := (((hs210.fb b2).fb b146).fb b_s)
    obtain ⟨L213, hs212, ho214⟩ := ownScrR.fl hs211 ho206 ho207 ho208 ho209
    have hs215 := (((hs212.fb b2).fb b146).fb b_s)
    refine ownScrR.retp rfl ((hs215.fr L213).fb b_s) ho214 ?_
    · rw [← hr2]; unfold csiD; rw [if_neg e65, if_neg e66, if_neg e67, if_neg e68, if_neg e71, if_neg e100, if_neg e7, if_neg e74, if_neg e75, if_neg e88, if_neg e64, if_neg e80, if_pos e76]; unfold linesD; rw [if_pos hwi]; show _ = ({ rollD r18.dat r18.Y r18.Bot (-argI l 0 1) with X := 0, Wrap := false } : ScrD); rw [← hrl]; rfl
   refine WL.st tbk hs199 0 rfl rfl (fun _ hs216 => WL.nil ⟨hs216.d1, WH.rn [1, 5, 6] hs216.d1 [1] rfl rfl (WH.o1 7 rfl (WL.st tbk hs216 0 rfl rfl (fun _ hs217 => WL.nil ⟨hs217.d1, WH.dn (ibN ?_)⟩)))⟩)
   refine retK0 rfl ?_
   obtain ⟨L218, L219, L220, L221, hs226, ho222, ho223, ho224, ho225⟩ := ownScrR.op hs217 ho196
   have hs227 := (((hs226.fb b2).fb b146).fb b_s)
   obtain ⟨L229, hs228, ho230⟩ := ownScrR.fl hs227 ho222 ho223 ho224 ho225
   have hs231 := (((hs228.fb b2).fb b146).fb b_s)
   refine ownScrR.retp rfl ((hs231.fr L229).fb b_s) ho230 ?_
   · rw [← hr2]; unfold csiD; rw [if_neg e65, if_neg e66, if_neg e67, if_neg e68, if_neg e71, if_neg e100, if_neg e7, if_neg e74, if_neg e75, if_neg e88, if_neg e64, if_neg e80, if_pos e76]; unfold linesD; rw [if_pos hwi]; show _ = ({ rollD r18.dat r18.Y r18.Bot (-argI l 0 1) with X := 0, Wrap := false } : ScrD); rw [← hrl]; rfl
  have hwi : ¬ within r18.dat.Y r18.dat.Top r18.dat.Bot = true := by have h9 := h143; show ¬ within r18.Y r18.Top r18.Bot = true; rw [h9]; decide
  refine WC.skip (ibN (retK0 rfl (⟨r18, _, rfl, St.keepP (L1 := L19) ((hs142.fr L19).fb b_s), ho20, ?_⟩)))
  · rw [← hr2]; unfold csiD; rw [if_neg e65, if_neg e66, if_neg e67, if_neg e68, if_neg e71, if_neg e100, if_neg e7, if_neg e74, if_neg e75, if_neg e88, if_neg e64, if_neg e80, if_pos e76]; unfold linesD; rw [if_neg hwi]
 have e76 : ¬ b = 76 := by have h9 := h140; simpa using h9
 refine WC.region (WL.r 2 hs24 [] rfl (WL.nil (hK139 _ _ ?_)))
 refine WC.cq rfl (fun h232 qh232 => ?_) (fun h232 qh232 => ?_)
 ·have e77 : b = 77 := by have h9 := h232; simpa using h9
  refine WC.sq1 hs24 (WQ.r 12 [1, 0, 1, 0, 1, 0] rfl ?_)
  refine WQ.call rfl rfl rfl (fun w_ hs_ => (Run.call Tryz.call97 rfl rfl rfl)) (fun w_ hs_ => (k0_ _ _ _ _).mono fun e_ w_ h_ => ⟨h_.1, (hs_ : St _ _ _ _).call0 h_.2⟩) ?_
  refine WQ.nil (fun _ (hs233 : St _ _ _ _) => ?_)
  refine WC.cq rfl (fun h234 qh234 => ?_) (fun h234 qh234 => ?_)
  ·have hwi : within r18.dat.Y r18.dat.Top r18.dat.Bot = true := h234
   have hwj := within_iff.1 hwi
   have htl : 0 ≤ r18.Y ∧ r18.Y ≤ r18.Bot ∧ r18.Bot < (shownD r18.dat).H := by rw [hsh2.2]; simp only [ScrR.dat] at hwj; omega
   refine WC.seq (fun K235 hK235 => WC.rG 19 (hs233.d1.rm L19) hs233 hs233 (fun _ hs236 => ?_))
   refine WG.rn [0, 1, 2, 3, 4, 5, 6, 7, 8, 10, 11, 13, 16, 17] hs236 [1, 1, 0, 1, 0] rfl rfl (WG.o1 9 rfl rfl (WL.makeMap hs236 rfl rfl rfl rfl (fun b237 whs238 hs238 => WL.nil ⟨hs238.d1, ?_⟩)))
   refine WG.all [12, 14] (by kernel_rfl) rfl (WGs.cons (i := 12) rfl rfl ?_ (WGs.cons (i := 14) rfl rfl ?_ WGs.nil))
   ·refine WL.mapPut hs238 0 rfl Tryz.underlying230 Tryz.underlying4 rfl rfl rfl rfl rfl rfl rfl ?_ ?_ (fun whs239 hs239 => ?_)
    · trivial
    · rfl
    refine WL.nil ⟨hs239.d1, WG.o1 14 rfl rfl (WL.mapPut hs239 0 rfl Tryz.underlying230 Tryz.underlying4 rfl rfl rfl rfl rfl rfl rfl ?_ ?_ (fun whs240 hs240 => ?_))⟩
    · trivial
    · rfl
    refine WL.nil ⟨hs240.d1, WG.rn [15] hs240.d1 [] rfl rfl (WG.o1 18 rfl rfl (WL.val rfl rfl rfl (Run.mapGet (v := i64 (argI l 0 1)) Tryz.underlying230 Tryz.underlying4 rfl rfl rfl (hs240.own _ (nthL_mem (i := 0) rfl)).1 ?_ ?_) ?_))⟩
    · trivial
    · rw [show decide (b = 76) = false from decide_eq_false e76]; exact ⟨_, rfl⟩
    refine WL.nil ⟨hs240.d1, WG.oK rfl ?_⟩
    have hF241 := ((hs240.fr L19).fb b_s)
    refine WL.cl Tryz.call210 rfl (k58_ _ r18 _ _ _ _ _ (St.headP hF241) ho20 (St.ownP hF241) (St.nodupP hF241) ?_ ?_ ?_ ?_) ?_
    iterate 4 first | assumption | rfl | omega | (refine ⟨?_, ?_, ?_, ?_⟩ <;> omega) | (constructor <;> omega)
    rintro _ whs242 ⟨r243, L244, rfl, hs242, ho245, hd246⟩
    replace hs242 := St.lendP hF241 hs242
    refine ⟨_, rfl, ?_⟩
    have hs247 := (((hs242.fb b2).fb b237).fb b_s)
    have hrl := hd246
    refine WL.nil ⟨(hs247.d1.d1.rm L244), WH.dn (hK235 _ _ (WC.rG 4 hs247.d1 hs247 hs247 (fun _ hs248 => ?_)))⟩
    refine WG.rn [0, 2, 3] hs248 [2] rfl rfl (WG.all [1, 4] (by kernel_rfl) rfl (WGs.cons (i := 1) rfl rfl ?_ (WGs.consK rfl ?_ WGs.nil)))
    ·refine WL.r 1 hs248 [2] rfl (WL.nil ⟨hs248, WG.oK rfl (WL.st tbk hs248 0 rfl rfl (fun _ hs249 => WL.nil ⟨hs249.d1, WH.rn [5, 6] hs249.d1 [] rfl rfl (WH.o1 7 rfl (WL.st tbk hs249 0 rfl rfl (fun _ hs250 => ?_)))⟩))⟩)
     refine WL.nil ⟨hs250.d1, WH.dn (ibN (retK0 rfl ?_))⟩
     obtain ⟨L251, L252, L253, L254, hs259, ho255, ho256, ho257, ho258⟩ := ownScrR.op hs250 ho245
     have hs260 := (((hs259.fb b2).fb b237).fb b_s)
     obtain ⟨L262, hs261, ho263⟩ := ownScrR.fl hs260 ho255 ho256 ho257 ho258
     have hs264 := (((hs261.fb b2).fb b237).fb b_s)
     refine ownScrR.retp rfl ((hs264.fr L262).fb b_s) ho263 ?_
     · rw [← hr2]; unfold csiD; rw [if_neg e65, if_neg e66, if_neg e67, if_neg e68, if_neg e71, if_neg e100, if_neg e7, if_neg e74, if_neg e75, if_neg e88, if_neg e64, if_neg e80, if_neg e76, if_pos e77]; unfold linesD; rw [if_pos hwi]; show _ = ({ rollD r18.dat r18.Y r18.Bot (argI l 0 1) with X := 0, Wrap := false } : ScrD); rw [← hrl]; rfl
    refine WL.st tbk hs248 0 rfl rfl (fun _ hs265 => WL.nil ⟨hs265.d1, WH.rn [1, 5, 6] hs265.d1 [1] rfl rfl (WH.o1 7 rfl (WL.st tbk hs265 0 rfl rfl (fun _ hs266 => WL.nil ⟨hs266.d1, WH.dn (ibN ?_)⟩)))⟩)
    refine retK0 rfl ?_
    obtain ⟨L267, L268, L269, L270, hs275, ho271, ho272, ho273, ho274⟩ := ownScrR.op hs266 ho245
    have hs276 := (((hs275.fb b2).fb b237).fb b_s)
    obtain ⟨L278, hs277, ho279⟩ := ownScrR.fl hs276 ho271 ho272 ho273 ho274
    have hs280 := (((hs277.fb b2).fb b237).fb b_s)
    refine ownScrR.retp rfl ((hs280.fr L278).fb b_s) ho279 ?_
    · rw [← hr2]; unfold csiD; rw [if_neg e65, if_neg e66, if_neg e67, if_neg e68, if_neg e71, if_neg e100, if_neg e7, if_neg e74, if_neg e75, if_neg e88, if_neg e64, if_neg e80, if_neg e76, if_pos e77]; unfold linesD; rw [if_pos hwi]; show _ = ({ rollD r18.dat r18.Y r18.Bot (argI l 0 1) with X := 0, Wrap := false } : ScrD); rw [← hrl]; rfl
   refine WL.mapPut hs238 0 rfl Tryz.underlying230 Tryz.underlying4 rfl rfl rfl rfl rfl rfl rfl ?_ ?_ (fun whs281 hs281 => ?_)
   · trivial
   · rfl
   refine WL.nil ⟨hs281.d1, WG.o1 12 rfl rfl (WL.mapPut hs281 0 rfl Tryz.underlying230 Tryz.underlying4 rfl rfl rfl rfl rfl rfl rfl ?_ ?_ (fun whs282 hs282 => ?_))⟩
   · trivial
   · rfl
   refine WL.nil ⟨hs282.d1, WG.rn [15] hs282.d1 [] rfl rfl (WG.o1 18 rfl rfl (WL.val rfl rfl rfl (Run.mapGet (v := i64 (argI l 0 1)) Tryz.underlying230 Tryz.underlying4 rfl rfl rfl (hs282.own _ (nthL_mem (i := 0) rfl)).1 ?_ ?_) ?_))⟩
   · trivial
   · rw [show decide (b = 76) = false from decide_eq_false e76]; exact ⟨_, rfl⟩
   refine WL.nil ⟨hs282.d1, WG.oK rfl ?_⟩
   have hF283 := ((hs282.fr L19).fb b_s)
   refine WL.cl Tryz.call210 rfl (k58_ _ r18 _ _ _ _ _ (St.headP hF283) ho20 (St.ownP hF283) (St.nodupP hF283) ?_ ?_ ?_ ?_) ?_
   iterate 4 first | assumption | rfl | omega | (refine ⟨?_, ?_, ?_, ?_⟩ <;> omega) | (constructor <;> omega)
   rintro _ whs284 ⟨r285, L286, rfl, hs284, ho287, hd288⟩
   replace hs284 := St.lendP hF283 hs284
   refine ⟨_, rfl, ?_⟩
   have hs289 := (((hs284.fb b2).fb b237).fb b_s)
   have hrl := hd288
   refine WL.nil ⟨(hs289.d1.d1.rm L286), WH.dn (hK235 _ _ (WC.rG 4 hs289.d1 hs289 hs289 (fun _ hs290 => ?_)))⟩
   refine WG.rn [0, 2, 3] hs290 [2] rfl rfl (WG.all [1, 4] (by kernel_rfl) rfl (WGs.cons (i := 1) rfl rfl ?_ (WGs.consK rfl ?_ WGs.nil)))
   ·refine WL.r 1 hs290 [2] rfl (WL.nil ⟨hs290, WG.oK rfl (WL.st tbk hs290 0 rfl rfl (fun _ hs291 => WL.nil ⟨hs291.d1, WH.rn [5, 6] hs291.d1 [] rfl rfl (WH.o1 7 rfl (WL.st tbk hs291 0 rfl rfl (fun _ hs292 => ?_)))⟩))⟩)
    refine WL.nil ⟨hs292.d1, WH.dn (ibN (retK0 rfl ?_))⟩
    obtain ⟨L293, L294, L295, L296, hs301, ho297, ho298, ho299, ho300⟩ := ownScrR.op hs292 ho287
    have hs302 := (((hs301.fb b2).fb b237).fb b_s)
    obtain ⟨L304, hs303, ho305⟩ := ownScrR.fl hs302 ho297 ho298 ho299 ho300
    have hs306 := (((hs303.fb b2).fb b237).fb b_s)
    refine ownScrR.retp rfl ((hs306.fr L304).fb b_s) ho305 ?_
    · rw [← hr2]; unfold csiD; rw [if_neg e65, if_neg e66, if_neg e67, if_neg e68, if_neg e71, if_neg e100, if_neg e7, if_neg e74, if_neg e75, if_neg e88, if_neg e64, if_neg e80, if_neg e76, if_pos e77]; unfold linesD; rw [if_pos hwi]; show _ = ({ rollD r18.dat r18.Y r18.Bot (argI l 0 1) with X := 0, Wrap := false } : ScrD); rw [← hrl]; rfl
   refine WL.st tbk hs290 0 rfl rfl (fun _ hs307 => WL.nil ⟨hs307.d1, WH.rn [1, 5, 6] hs307.d1 [1] rfl rfl (WH.o1 7 rfl (WL.st tbk hs307 0 rfl rfl (fun _ hs308 => WL.nil ⟨hs308.d1, WH.dn (ibN ?_)⟩)))⟩)
   refine retK0 rfl ?_
   obtain ⟨L309, L310, L311, L312, hs317, ho313, ho314, ho315, ho316⟩ := ownScrR.op hs308 ho287
   have hs318 := (((hs317.fb b2).fb b237).fb b_s)
   obtain ⟨L320, hs319, ho321⟩ := ownScrR.fl hs318 ho313 ho314 ho315 ho316
   have hs322 := (((hs319.fb b2).fb b237).fb b_s)
   refine ownScrR.retp rfl ((hs322.fr L320).fb b_s) ho321 ?_
   · rw [← hr2]; unfold csiD; rw [if_neg e65, if_neg e66, if_neg e67, if_neg e68, if_neg e71, if_neg e100, if_neg e7, if_neg e74, if_neg e75, if_neg e88, if_neg e64, if_neg e80, if_neg e76, if_pos e77]; unfold linesD; rw [if_pos hwi]; show _ = ({ rollD r18.dat r18.Y r18.Bot (argI l 0 1) with X := 0, Wrap := false } : ScrD); rw [← hrl]; rfl
  have hwi : ¬ within r18.dat.Y r18.dat.Top r18.dat.Bot = true := by have h9 := h234; show ¬ within r18.Y r18.Top r18.Bot = true; rw [h9]; decide
  refine WC.skip (ibN (retK0 rfl (⟨r18, _, rfl, St.keepP (L1 := L19) ((hs233.fr L19).fb b_s), ho20, ?_⟩)))
  · rw [← hr2]; unfold csiD; rw [if_neg e65, if_neg e66, if_neg e67, if_neg e68, if_neg e71, if_neg e100, if_neg e7, if_neg e74, if_neg e75, if_neg e88, if_neg e64, if_neg e80, if_neg e76, if_pos e77]; unfold linesD; rw [if_neg hwi]
 have e77 : ¬ b = 77 := by have h9 := h232; simpa using h9
 refine WC.r1 hs24 [] rfl (WC.cq rfl (fun h323 qh323 => ?_) (fun h323 qh323 => ?_))
 ·have e83 : b = 83 := by have h9 := h323; simpa using h9
  refine WC.region (WL.r 2 hs24 [1] rfl ?_)
  have hF324 := ((hs24.fr L19).fb b_s)
  refine WL.cl Tryz.call209 rfl (k59_ _ r18 _ _ _ (St.headP hF324) ho20 (St.ownP hF324) (St.nodupP hF324) ?_ ?_ ?_) ?_
  iterate 3 first | assumption | rfl | omega | (refine ⟨?_, ?_, ?_, ?_⟩ <;> omega) | (constructor <;> omega)
  rintro _ whs325 ⟨r326, L327, rfl, hs325, ho328, hd329⟩
  replace hs325 := St.lendP hF324 hs325
  refine ⟨_, rfl, ?_⟩
  have hs330 := ((hs325.fb b2).fb b_s)
  refine WL.nil (ibN (retK0 rfl (⟨r326, _, rfl, St.keepP (L1 := L327) ((hs330.fr L327).fb b_s), ho328, ?_⟩)))
  · rw [← hr2]; unfold csiD; rw [if_neg e65, if_neg e66, if_neg e67, if_neg e68, if_neg e71, if_neg e100, if_neg e7, if_neg e74, if_neg e75, if_neg e88, if_neg e64, if_neg e80, if_neg e76, if_neg e77, if_pos e83]; exact hd329
 have e83 : ¬ b = 83 := by have h9 := h323; simpa using h9
 refine WC.r1 hs24 [] rfl (WC.cq rfl (fun h331 qh331 => ?_) (fun h331 qh331 => ?_))
 ·have e84 : b = 84 := by have h9 := h331; simpa using h9
  refine WC.rG 11 (hs24.d1.rm L19) hs24 hs24 (fun _ hs332 => ?_)
  refine WG.rn [0, 1, 2, 3, 4, 5, 6, 7, 8, 9, 10] hs332 [1, 1, 0, 1, 0] rfl rfl (WG.oK rfl ?_)
  have hF333 := ((hs332.fr L19).fb b_s)
  refine WL.cl Tryz.call210 rfl (k58_ _ r18 _ _ _ _ _ (St.headP hF333) ho20 (St.ownP hF333) (St.nodupP hF333) ?_ ?_ ?_ ?_) ?_
  iterate 4 first | assumption | rfl | omega | (refine ⟨?_, ?_, ?_, ?_⟩ <;> omega) | (constructor <;> omega)
  rintro _ whs334 ⟨r335, L336, rfl, hs334, ho337, hd338⟩
  replace hs334 := St.lendP hF333 hs334
  refine ⟨_, rfl, ?_⟩
  have hs339 := ((hs334.fb b2).fb b_s)
  refine WL.nil ⟨(hs339.d1.rm L336), WH.dn (ibN (retK0 rfl (⟨r335, _, rfl, St.keepP (L1 := L336) ((hs339.fr L336).fb b_s), ho337, ?_⟩)))⟩
  · rw [← hr2]; unfold csiD; rw [if_neg e65, if_neg e66, if_neg e67, if_neg e68, if_neg e71, if_neg e100, if_neg e7, if_neg e74, if_neg e75, if_neg e88, if_neg e64, if_neg e80, if_neg e76, if_neg e77, if_neg e83, if_pos e84]; exact hd338
 have e84 : ¬ b = 84 := by have h9 := h331; simpa using h9
 refine WC.r1 hs24 [] rfl (WC.cq rfl (fun h340 qh340 => ?_) (fun h340 qh340 => ?_))
 ·have e109 : b = 109 := by have h9 := h340; simpa using h9
  refine WC.rG 9 hs24.d1 hs24 hs24 (fun _ hs341 => ?_)
  refine WG.rn [0, 1, 2, 3, 4, 5] hs341 [1, 1, 0] rfl rfl (WG.o1 6 rfl rfl (WL.cl Tryz.call238 rfl (k67_ _ _ _ _ _ _ _ _ _ _ (SlF.st f_l hs341 s_l) ?_ ?_) ?_))
  iterate 2 first | assumption | rfl | omega | (refine ⟨?_, ?_, ?_, ?_⟩ <;> omega) | (constructor <;> omega)
  rintro _ whs342 ⟨r343, rfl, hs342, hr344⟩
  replace hs342 := hs341.callF hs342
  refine ⟨_, rfl, ?_⟩
  rw [List.nil_append] at hs342
  replace hs342 := St.perm hs342 (L' := [_, _] ++ _) pR
  have hsg : r343 = sgrRes r18.A l := hr344
  refine WL.nil ⟨hs342, WG.rn [7, 8] hs342 [] rfl rfl (WG.oK rfl (WL.st tbk hs342 0 rfl rfl (fun _ hs345 => WL.nil ⟨hs345.d1, WH.dn (ibN (retK0 rfl ?_))⟩)))⟩
  obtain ⟨L346, L347, L348, L349, hs354, ho350, ho351, ho352, ho353⟩ := ownScrR.op hs345 ho20
  have hs355 := ((hs354.fb b2).fb b_s)
  obtain ⟨L357, hs356, ho358⟩ := ownScrR.fl hs355 ho350 ho351 ho352 ho353
  have hs359 := ((hs356.fb b2).fb b_s)
  refine ownScrR.retp rfl ((hs359.fr L357).fb b_s) ho358 ?_
  · rw [← hr2]; unfold csiD; rw [if_neg e65, if_neg e66, if_neg e67, if_neg e68, if_neg e71, if_neg e100, if_neg e7, if_neg e74, if_neg e75, if_neg e88, if_neg e64, if_neg e80, if_neg e76, if_neg e77, if_neg e83, if_neg e84, if_pos e109]; show _ = ({ r18.dat with A := sgrRes r18.A l } : ScrD); rw [← hsg]; rfl
 have e109 : ¬ b = 109 := by have h9 := h340; simpa using h9
 refine WC.r1 hs24 [] rfl (WC.cq rfl (fun h360 qh360 => ?_) (fun h360 qh360 => ?_))
 ·have e114 : b = 114 := by have h9 := h360; simpa using h9
  refine WC.region (WL.r 3 hs24 [1] rfl ?_)
  have hF361 := ((hs24.fr L19).fb b_s)
  refine WL.cl Tryz.call239 rfl (k83_ _ r18 _ _ _ _ _ _ _ (St.headP hF361) ho20 (St.ownP hF361) (SlF.st f_l hs24 s_l) (St.nodupP hF361) (St.sepTP hF361 f_l s_l) ?_ ?_ ?_ ?_) ?_
  iterate 4 first | assumption | rfl | omega | (refine ⟨?_, ?_, ?_, ?_⟩ <;> omega) | (constructor <;> omega)
  rintro _ whs362 ⟨r363, L364, rfl, hs362, ho365, hd366⟩
  replace hs362 := St.lendP hF361 hs362
  refine ⟨_, rfl, ?_⟩
  have hs367 := ((hs362.fb b2).fb b_s)
  refine WL.nil (ibN (retK0 rfl (⟨r363, _, rfl, St.keepP (L1 := L364) ((hs367.fr L364).fb b_s), ho365, ?_⟩)))
  · rw [← hr2]; unfold csiD; rw [if_neg e65, if_neg e66, if_neg e67, if_neg e68, if_neg e71, if_neg e100, if_neg e7, if_neg e74, if_neg e75, if_neg e88, if_neg e64, if_neg e80, if_neg e76, if_neg e77, if_neg e83, if_neg e84, if_neg e109, if_pos e114]; exact hd366
 have e114 : ¬ b = 114 := by have h9 := h360; simpa using h9
 refine WC.r1 hs24 [] rfl (WC.cq rfl (fun h368 qh368 => ?_) (fun h368 qh368 => ?_))
 ·have e103 : b = 103 := by have h9 := h368; simpa using h9
  refine WC.r1 hs24 [] rfl (WC.block (WC.r1 hs24 [] rfl (WC.cq rfl (fun h369 qh369 => ?_) (fun h369 qh369 => ?_))))
  ·have ek0 : argI l 0 0 = 0 := by have h9 := h369; simpa using h9
   refine WC.rG 9 (hs24.d1.rm L19) (hs24.rm L19) hs24 (fun _ hs370 => ?_)
   refine WG.rn [0, 1, 2, 3, 4] (hs370.rm L19) [1, 1, 0] rfl rfl ?_
   refine WG.tk 5 rfl (by kernel_rfl) rfl rfl rfl (hs370.rm L19) (fun w_ hs_ => (Run.makeFunc rfl rfl)) ?_
   refine WG.o1 6 rfl rfl ?_
   obtain ⟨L372, L373, L374, L375, hs380, ho376, ho377, ho378, ho379⟩ := ownScrR.op hs370 ho20
   have hs381 := ((hs380.fb b2).fb b_s)
   refine WL.cl Tryz.call240 rfl (k70_ _ _ _ _ _ _ ho378 (hs381.ow L374) (fun w_ Lx_ hx_ m_ => k85_ b2 b_s r18 m_ w_ ((hx_.keep _ (lt_of_heap (hs381.own _ (nthL_mem (i := 1) rfl)).1) (St.sepOwn (hs381.fr L374) (nthL_mem (i := 1) rfl))).trans (hs381.own _ (nthL_mem (i := 1) rfl)).1) ((hx_.keep _ (lt_of_heap (hs381.own _ (nthL_mem (i := 0) rfl)).1) (St.sepOwn (hs381.fr L374) (nthL_mem (i := 0) rfl))).trans (hs381.own _ (nthL_mem (i := 0) rfl)).1) (St.neq hs381 (i := 1) (j := 0) rfl rfl (by decide))) ?_) ?_
   · first | assumption | rfl | omega | (refine ⟨?_, ?_, ?_, ?_⟩ <;> omega) | (constructor <;> omega)
   rintro _ whs371 ⟨A382, c383, n384, xs385, L1_386, rfl, hs371, ho387, hd388⟩
   replace hs371 := St.lend (hs381.fr L374) hs371
   refine ⟨_, rfl, ?_⟩
   replace hs371 := St.back [_, _] hs371
   have hdl := hd388
   refine WL.nil ⟨((((hs371.rm L1_386).rm L372).rm L373).rm L375), WG.rn [7, 8] ((((hs371.rm L1_386).rm L372).rm L373).rm L375) [] rfl rfl (WG.oK rfl (WL.st tbk hs371 0 rfl rfl (fun _ hs389 => WL.nil ⟨((((hs389.d1.rm L1_386).rm L372).rm L373).rm L375), WH.dn (ibN (ibN ?_))⟩)))⟩
   refine retK0 rfl ?_
   obtain ⟨L391, hs390, ho392⟩ := ownScrR.fl hs389 ho376 ho377 ho387 ho379
   have hs393 := ((hs390.fb b2).fb b_s)
   refine ownScrR.retp rfl ((hs393.fr L391).fb b_s) ho392 ?_
   · rw [← hr2]; unfold csiD; rw [if_neg e65, if_neg e66, if_neg e67, if_neg e68, if_neg e71, if_neg e100, if_neg e7, if_neg e74, if_neg e75, if_neg e88, if_neg e64, if_neg e80, if_neg e76, if_neg e77, if_neg e83, if_neg e84, if_neg e109, if_neg e114, if_pos e103]; rw [ek0, tabsD_0]; show _ = ({ r18.dat with Tabs := r18.Tabs.xs.filter fun x => !decide (x = r18.X) } : ScrD); rw [← hdl]; rfl
  have ek0 : ¬ argI l 0 0 = 0 := by have h9 := h369; simpa using h9
  refine WC.r1 hs24 [] rfl (WC.cq rfl (fun h394 qh394 => ?_) (fun h394 qh394 => ?_))
  ·have ek3 : argI l 0 0 = 3 := by have h9 := h394; simpa using h9
   refine WC.region (WL.r 3 hs24 [1] rfl (WL.st tbk hs24 0 rfl rfl (fun _ hs395 => WL.nil (ibN (ibN (retK0 rfl ?_))))))
   obtain ⟨L396, L397, L398, L399, hs404, ho400, ho401, ho402, ho403⟩ := ownScrR.op hs395 ho20
   have hs405 := ((hs404.fb b2).fb b_s)
   obtain ⟨L408, hs407, ho409⟩ := ownScrR.fl hs405 ho400 ho401 (OwnF.nil _ _) ho403
   have hs410 := ((hs407.fb b2).fb b_s)
   refine ownScrR.retp rfl ((hs410.fr L408).fb b_s) ho409 ?_
   · rw [← hr2]; unfold csiD; rw [if_neg e65, if_neg e66, if_neg e67, if_neg e68, if_neg e71, if_neg e100, if_neg e7, if_neg e74, if_neg e75, if_neg e88, if_neg e64, if_neg e80, if_neg e76, if_neg e77, if_neg e83, if_neg e84, if_neg e109, if_neg e114, if_pos e103]; rw [ek3, tabsD_3]; rfl
  have ek3 : ¬ argI l 0 0 = 3 := by have h9 := h394; simpa using h9
  refine WC.skip (ibN (ibN (retK0 rfl (⟨r18, _, rfl, St.keepP (L1 := L19) ((hs24.fr L19).fb b_s), ho20, ?_⟩))))
  · rw [← hr2]; unfold csiD; rw [if_neg e65, if_neg e66, if_neg e67, if_neg e68, if_neg e71, if_neg e100, if_neg e7, if_neg e74, if_neg e75, if_neg e88, if_neg e64, if_neg e80, if_neg e76, if_neg e77, if_neg e83, if_neg e84, if_neg e109, if_neg e114, if_pos e103]; rw [tabsD_o ek0 ek3]
 have e103 : ¬ b = 103 := by have h9 := h368; simpa using h9
 refine WC.skip (ibN (retK0 rfl (⟨r18, _, rfl, St.keepP (L1 := L19) ((hs24.fr L19).fb b_s), ho20, ?_⟩)))
 · rw [← hr2]; unfold csiD; rw [if_neg e65, if_neg e66, if_neg e67, if_neg e68, if_neg e71, if_neg e100, if_neg e7, if_neg e74, if_neg e75, if_neg e88, if_neg e64, if_neg e80, if_neg e76, if_neg e77, if_neg e83, if_neg e84, if_neg e109, if_neg e114, if_neg e103]
theorem k93_ (b_s : Nat) (s : ScrR) (L_s : Hp) (mark : Bool) (A_l : Option Addr) (n_l c_l : Nat) (l : List Int) (b : Int) (w : World) (hb_s : w.heap[b_s]? = some (Obj.cells (List.toArray [i64 s.W, i64 s.H, i64 s.Main.W, i64 s.Main.H, .slice s.Main.Cells.A s.Main.Cells.n s.Main.Cells.c, i64 s.Alt.W, i64 s.Alt.H, .slice s.Alt.Cells.A s.Alt.Cells.n s.Alt.Cells.c, .bool s.OnAlt, i64 s.X, i64 s.Y, .bool s.Wrap, i64 s.A.Fg, i64 s.A.Bg, .bool s.A.Bold, .bool s.A.Under, .bool s.A.Turn, i64 s.Top, i64 s.Bot, .bool s.NoWrap, .bool s.Hide, i64 s.SaveX, i64 s.SaveY, i64 s.SaveA.Fg, i64 s.SaveA.Bg, .bool s.SaveA.Bold, .bool s.SaveA.Under, .bool s.SaveA.Turn, .slice s.Tabs.A s.Tabs.n s.Tabs.c, i64 s.Limit, .slice s.Back.A s.Back.n s.Back.c]) 33 (0, 0))) (o_s : ownScrR s L_s) (h_s : Hh w L_s) (f_l : SlF encI w A_l n_l l) (hd_ : (b_s :: L_s.map (·.1)).Nodup) (s_l : 0 < n_l → (adr A_l).block ∉ (b_s :: L_s.map (·.1))) (hf : ScrFine s.dat) (hsm : smScr 1048576 s.dat) (hl : areArgs l = true) (hll : n_l ≤ 549755813888) :
    Calls Tryz.prog 103 #[.pointer (some ⟨b_s, 0, none⟩), .bool mark, .slice A_l n_l c_l, i64 b] w fun e w' => ∃ r L1, e = .returned (.tuple #[]) ∧ St w (b_s :: L_s.map (·.1)) ([(b_s, Obj.cells (List.toArray [i64 r.W, i64 r.H, i64 r.Main.W, i64 r.Main.H, .slice r.Main.Cells.A r.Main.Cells.n r.Main.Cells.c, i64 r.Alt.W, i64 r.Alt.H, .slice r.Alt.Cells.A r.Alt.Cells.n r.Alt.Cells.c, .bool r.OnAlt, i64 r.X, i64 r.Y, .bool r.Wrap, i64 r.A.Fg, i64 r.A.Bg, .bool r.A.Bold, .bool r.A.Under, .bool r.A.Turn, i64 r.Top, i64 r.Bot, .bool r.NoWrap, .bool r.Hide, i64 r.SaveX, i64 r.SaveY, i64 r.SaveA.Fg, i64 r.SaveA.Bg, .bool r.SaveA.Bold, .bool r.SaveA.Under, .bool r.SaveA.Turn, .slice r.Tabs.A r.Tabs.n r.Tabs.c, i64 r.Limit, .slice r.Back.A r.Back.n r.Back.c]) 33 (0, 0))] ++ L1) w' ∧ ownScrR r L1 ∧ r.dat = seqD s.dat mark l b := by
 have hsmB : smScr 549755813888 s.dat := smScr_mono hsm (by decide)
 have hln := f_l.len
 refine enter 36 Tryz.func103 rfl Tryz.ntmps103 rfl rfl ?_
 have hs1 := St.takeP w b_s _ L_s hb_s h_s hd_
 refine WC.block (WC.r1 hs1 [] rfl (WC.cq rfl (fun h2 qh2 => ?_) (fun h2 qh2 => ?_)))
 ·have hmk : mark = false := by have h9 := h2; simpa using h9
  refine WC.region (WL.r 3 hs1 [] rfl ?_)
  have hF3 := ((hs1.fr L_s).fb b_s)
  refine WL.cl Tryz.call189 rfl (k92_ _ s _ _ _ _ _ _ _ (St.headP hF3) o_s (St.ownP hF3) (SlF.st f_l hs1 s_l) (St.nodupP hF3) (St.sepTP hF3 f_l s_l) ?_ ?_ ?_ ?_) ?_
  iterate 4 first | assumption | omega
  rintro _ whs4 ⟨r5, L6, rfl, hs4, ho7, hd8⟩
  replace hs4 := St.lendP hF3 hs4
  refine ⟨_, rfl, WL.nil (ibN (retK0 rfl (⟨r5, _, rfl, St.keepP (L1 := L6) ((hs4.fr L6).fb b_s), ho7, ?_⟩)))⟩
  · unfold seqD; rw [if_pos hmk]; exact hd8
 have hmk : ¬ mark = false := by have h9 := h2; simpa using h9
 refine WC.sr (WL.r 3 hs1 [] rfl (WL.pO tbk 2 Acts.nil hs1 [] rfl rfl rfl rfl (fun g_ => trivial) (WL.r 1 hs1 [] rfl (WL.nil (WC.cq rfl (fun h9 qh9 => ?_) (fun h9 qh9 => ?_))))))
 ·have hbb : b = 104 ∨ b = 108 := by have h9 := h9; simp at h9; exact h9
  refine WC.r1 hs1 [] rfl (WC.block ?_)
  have hM14 := (St.grp1 (L1 := L_s) [_] ((hs1.fr L_s).fb b_s))
  refine WC.lV [0, 3, 10, 17, 24, 25] rfl hM14 (fun k_ (a_ : Hp) f => ∃ (i : Nat) (r : ScrR) (L12 : Hp), k_ = n_l - i ∧ a_ = [(b_s, .cells (List.toArray [i64 r.W, i64 r.H, i64 r.Main.W, i64 r.Main.H, .slice r.Main.Cells.A r.Main.Cells.n r.Main.Cells.c, i64 r.Alt.W, i64 r.Alt.H, .slice r.Alt.Cells.A r.Alt.Cells.n r.Alt.Cells.c, .bool r.OnAlt, i64 r.X, i64 r.Y, .bool r.Wrap, i64 r.A.Fg, i64 r.A.Bg, .bool r.A.Bold, .bool r.A.Under, .bool r.A.Turn, i64 r.Top, i64 r.Bot, .bool r.NoWrap, .bool r.Hide, i64 r.SaveX, i64 r.SaveY, i64 r.SaveA.Fg, i64 r.SaveA.Bg, .bool r.SaveA.Bold, .bool r.SaveA.Under, .bool r.SaveA.Turn, .slice r.Tabs.A r.Tabs.n r.Tabs.c, i64 r.Limit, .slice r.Back.A r.Back.n r.Back.c]) 33 (0, 0))] ++ L12 ∧ (i ≤ n_l) ∧ (r.dat = modesD s.dat (l.take i) (decide (b = 104))) ∧ ownScrR r L12 ∧ Sub [(26, .int .i64 i)] f) (((fun (i : Nat) => n_l - i) (0))) ?_ ?_
  ·refine ⟨0, s, L_s, rfl, rfl, ?_, ?_, o_s, ⟨rfl, trivial⟩⟩
   · exact Nat.zero_le _
   · rfl
  rintro _ _ f w ⟨i, r, L12, rfl, rfl, p0, p1, ho13, hG⟩ hF hs15
  refine WC.sub _ (hG.app hF) ?_
  clear hG hF
  replace hs15 := St.ungrp1 [_] hs15
  have hfr : ScrFine r.dat := by rw [p1]; exact hf.modes
  have hsmr : smScr 549755813888 r.dat := fine_smB hfr (by decide)
  refine WC.r1 hs15 [] rfl (WC.seq (fun K16 hK16 => ?_))
  refine WC.cq rfl (fun h17 qh17 => ?_) (fun h17 qh17 => ?_)
  ·refine WC.skip (hK16 _ _ (WC.seq (fun K18 hK18 => WC.block (WC.sr ?_))))
   refine WL.val rfl rfl rfl (Run.idxN Tryz.runUnderlying23 Tryz.sizeOf3 rfl rfl rfl ?_ ?_ ?_) ?_
   · exact SlF.some_ (SlF.st f_l hs15 s_l)
   · omega
   · omega
   refine WL.val rfl rfl rfl (Run.load Tryz.isAgg3 rfl rfl (SlF.one1 (SlF.st f_l hs15 s_l) ?_ rfl)) ?_
   · omega
   refine WL.r 1 hs15 [] rfl (WL.nil (WC.region (WL.r 4 hs15 [] rfl ?_)))
   have hF19 := ((hs15.fr L12).fb b_s)
   refine WL.cl Tryz.call190 rfl (k84_ _ r _ _ _ _ (St.headP hF19) ho13 (St.ownP hF19) (St.nodupP hF19) ?_ ?_) ?_
   iterate 2 first | assumption | rfl | omega
   rintro _ whs20 ⟨r21, L22, rfl, hs20, ho23, hd24⟩
   replace hs20 := St.lendP hF19 hs20
   refine ⟨_, rfl, WL.nil (hK18 _ _ (WC.region (WL.r 2 hs20 [] rfl (WL.nil (tkN ?_)))))⟩
   have hF25 := (St.grp1 (L1 := L22) [_] ((hs20.fr L22).fb b_s))
   refine ⟨sbF rfl, _, hF25, _, ?_, i + 1, r21, L22, rfl, rfl, ?_, ?_, ho23, ⟨rfl, trivial⟩⟩
   · omega
   · omega
   · rw [hd24, p1]; exact (modesD_take (by omega)).symm
  refine WC.exit (tkE (tkE (ibE (ibN (retK0 rfl (⟨r, _, rfl, St.keepP (L1 := L12) ((hs15.fr L12).fb b_s), ho13, ?_⟩))))))
  · unfold seqD; rw [if_neg hmk, if_pos hbb]; rw [p1, List.take_of_length_le (by omega)]; rfl
 have hbb : ¬ (b = 104 ∨ b = 108) := by have h9 := h9; simp at h9; omega
 refine WC.skip (ibN (retK0 rfl (⟨s, _, rfl, St.keepP (L1 := L_s) ((hs1.fr L_s).fb b_s), o_s, ?_⟩)))
 · unfold seqD; rw [if_neg hmk, if_neg hbb]
end Go.Proofs.YtjmegoiclgancaaGreat
