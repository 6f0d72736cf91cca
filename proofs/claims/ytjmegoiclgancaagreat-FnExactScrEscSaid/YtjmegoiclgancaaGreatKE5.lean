/-
  What the proof stands on, part 5.
-/
import Derived.Test.YtjmegoiclgancaaGreatKE4
namespace Go.Proofs.YtjmegoiclgancaaGreat
open Go Go.RowKit
set_option linter.unusedVariables false
set_option linter.unusedSimpArgs false
theorem c_impl_Scr_roll_main (b_s : Nat) (s : ScrR) (L_s : Hp) (top : Int) (bot : Int) (n : Int) (w : World) (hb_s : w.heap[b_s]? = some (Obj.cells (List.toArray [i64 s.W, i64 s.H, i64 s.Main.W, i64 s.Main.H, .slice s.Main.Cells.A s.Main.Cells.n s.Main.Cells.c, i64 s.Alt.W, i64 s.Alt.H, .slice s.Alt.Cells.A s.Alt.Cells.n s.Alt.Cells.c, .bool s.OnAlt, i64 s.X, i64 s.Y, .bool s.Wrap, i64 s.A.Fg, i64 s.A.Bg, .bool s.A.Bold, .bool s.A.Under, .bool s.A.Turn, i64 s.Top, i64 s.Bot, .bool s.NoWrap, .bool s.Hide, i64 s.SaveX, i64 s.SaveY, i64 s.SaveA.Fg, i64 s.SaveA.Bg, .bool s.SaveA.Bold, .bool s.SaveA.Under, .bool s.SaveA.Turn, .slice s.Tabs.A s.Tabs.n s.Tabs.c, i64 s.Limit, .slice s.Back.A s.Back.n s.Back.c]) 33 (0, 0))) (o_s : ownScrR s L_s) (h_s : ∀ p, p ∈ L_s → w.heap[p.1]? = some p.2) (hd_ : (b_s :: L_s.map (·.1)).Nodup) (hg : gridOk (shownD s.dat) = true) (ht : 0 ≤ top ∧ top ≤ bot ∧ bot < (shownD s.dat).H) (hn : -100000 ≤ n ∧ n ≤ 100000) (hsmB : smScr 549755813888 s.dat) (hx : s.OnAlt = false) :
    Calls Tryz.prog 210 #[.pointer (some ⟨b_s, 0, none⟩), i64 top, i64 bot, i64 n] w fun e w' => ∃ r L1, e = .returned (.tuple #[]) ∧ St w (b_s :: L_s.map (·.1)) ([(b_s, Obj.cells (List.toArray [i64 r.W, i64 r.H, i64 r.Main.W, i64 r.Main.H, .slice r.Main.Cells.A r.Main.Cells.n r.Main.Cells.c, i64 r.Alt.W, i64 r.Alt.H, .slice r.Alt.Cells.A r.Alt.Cells.n r.Alt.Cells.c, .bool r.OnAlt, i64 r.X, i64 r.Y, .bool r.Wrap, i64 r.A.Fg, i64 r.A.Bg, .bool r.A.Bold, .bool r.A.Under, .bool r.A.Turn, i64 r.Top, i64 r.Bot, .bool r.NoWrap, .bool r.Hide, i64 r.SaveX, i64 r.SaveY, i64 r.SaveA.Fg, i64 r.SaveA.Bg, .bool r.SaveA.Bold, .bool r.SaveA.Under, .bool r.SaveA.Turn, .slice r.Tabs.A r.Tabs.n r.Tabs.c, i64 r.Limit, .slice r.Back.A r.Back.n r.Back.c]) 33 (0, 0))] ++ L1) w' ∧ ownScrR r L1 ∧ r.dat = rollD s.dat top bot n := by
 refine enter (vs := [.pointer (some ⟨b_s, 0, none⟩), i64 top, i64 bot, i64 n]) 20 Tryz.func210 rfl Tryz.ntmps210 rfl rfl ?_
 have hs1 := St.takeP w b_s _ L_s hb_s h_s hd_
 refine WC.sr ?_
 refine WL.run tbk 1 hs1 [] rfl trivial ?_
 have hF2 : St _ _ ((_, _) :: (L_s ++ _)) _ := (St.perm (St.perm hs1 (L' := L_s ++ _) (perm_front (A := [_]) (List.Perm.refl _))) (L' := [_] ++ _) (perm_front (A := L_s) (List.Perm.refl _)))
 refine WL.call rfl rfl rfl (Run.call Tryz.call223 rfl rfl rfl) (c_impl_Scr_shown_main _ s _ _ (St.headP hF2) o_s (St.ownP hF2) (St.nodupP hF2) ?_) ?_
 · first | (first | assumption | rfl | omega) | (assumption)
 rintro _ whs3 ⟨r4, L5, rfl, hs3, ho6, hd7⟩
 replace hs3 := St.lendP hF2 hs3
 refine ⟨_, rfl, ?_⟩
 have hd2 := hd7
 have hM2 : r4.Main.dat = shownD s.dat := (congrArg ScrD.Main hd2).trans (by unfold shownD; rw [if_neg (show ¬ s.dat.OnAlt = true from by show ¬ s.OnAlt = true; first | exact hx | (rw [hx]; decide))])
 have hg2 : gridOk r4.Main.dat = true := by rw [hM2]; exact hg
 have ht2 : 0 ≤ top ∧ top ≤ bot ∧ bot < r4.Main.H := by have h9 := congrArg GridD.H hM2; simp only [GridR.dat] at h9; rw [h9]; exact ht
 refine WL.run tbk 1 hs3 [] rfl trivial ?_
 refine WL.nil ?_
 refine WC.region ?_
 refine WL.run tbk 2 hs3 [] rfl trivial ?_
 refine WL.val rfl rfl rfl (Run.nilCheck rfl rfl) ?_
 refine WL.run tbk 4 hs3 [0] rfl ⟨rfl, trivial⟩ ?_
 refine WL.call rfl rfl rfl (Run.call Tryz.call249 rfl rfl rfl) (c_impl_Grid_roll r4.Main _ _ _ _ (ownScrR.ok (B := 549755813888) ho6 (fun p_ hp_ => (hs3.own p_ (List.mem_append_right [_] (List.mem_append_left _ hp_))).1) (by rw [hd7]; assumption)).Main ?_ ?_ ?_) ?_
 · first | (first | assumption | rfl | omega) | (assumption)
 · first | (first | assumption | rfl | omega) | (assumption)
 · first | (first | assumption | rfl | omega) | (assumption)
 rintro _ whs8 ⟨r9, L1_10, rfl, hs8, ho11, hd12⟩
 replace hs8 := hs3.callF hs8
 refine ⟨_, rfl, ?_⟩
 replace hs8 := St.back [_] hs8
 have hd3 := hd12
 refine WL.val rfl rfl rfl (Run.nilCheck rfl rfl) ?_
 refine WL.st tbk hs8 0 rfl rfl (fun _ hs13 => ?_)
 refine WL.nil ?_
 refine retK0 rfl ?_
 obtain ⟨L14, L15, L16, L17, hs22, ho18, ho19, ho20, ho21⟩ := ownScrR.open_ (St.perm hs13 (L' := L5 ++ _) (perm_front (A := [_]) (perm_front (A := L1_10) (List.Perm.refl _)))) ho6
 have hs23 := (St.perm hs22 (L' := [_] ++ _) (perm_front (A := L14) (perm_front (A := L15) (perm_front (A := L16) (perm_front (A := L17) (List.Perm.refl _))))))
 obtain ⟨L25, hs24, ho26⟩ := ownScrR.fold ⟨0, 0, ⟨0, 0, ⟨_, _, _, _⟩⟩, ⟨0, 0, ⟨_, _, _, _⟩⟩, false, 0, 0, false, ⟨0, 0, false, false, false⟩, 0, 0, false, false, 0, 0, ⟨0, 0, false, false, false⟩, ⟨_, _, _, _⟩, 0, ⟨_, _, _, _⟩⟩ (St.perm (St.perm (St.perm (St.perm hs23 (L' := L17 ++ _) (perm_front (A := [_]) (perm_front (A := L14) (perm_front (A := L15) (perm_front (A := L16) (List.Perm.refl _)))))) (L' := L16 ++ _) (perm_front (A := L17) (perm_front (A := [_]) (perm_front (A := L14) (perm_front (A := L15) (List.Perm.refl _)))))) (L' := L15 ++ _) (perm_front (A := L16) (perm_front (A := L17) (perm_front (A := [_]) (perm_front (A := L14) (List.Perm.refl _)))))) (L' := L1_10 ++ _) (perm_front (A := L15) (perm_front (A := L16) (perm_front (A := L17) (perm_front (A := [_]) (perm_front (A := L14) (List.Perm.refl _))))))) ho11 ho19 ho20 ho21
 have hs27 := (St.perm hs24 (L' := [_] ++ _) (perm_front (A := L25) (List.Perm.refl _)))
 refine ⟨⟨r4.W, r4.H, ⟨r9.W, r9.H, SlD.of ho11⟩, ⟨r4.Alt.W, r4.Alt.H, SlD.of ho19⟩, r4.OnAlt, r4.X, r4.Y, r4.Wrap, ⟨r4.A.Fg, r4.A.Bg, r4.A.Bold, r4.A.Under, r4.A.Turn⟩, r4.Top, r4.Bot, r4.NoWrap, r4.Hide, r4.SaveX, r4.SaveY, ⟨r4.SaveA.Fg, r4.SaveA.Bg, r4.SaveA.Bold, r4.SaveA.Under, r4.SaveA.Turn⟩, SlD.of ho20, r4.Limit, SlD.ofN ho21⟩, _, rfl, St.keepP (L1 := L25) (St.perm (St.perm hs27 (L' := L25 ++ _) (perm_front (A := [_]) (List.Perm.refl _))) (L' := [_] ++ _) (perm_front (A := L25) (List.Perm.refl _))), (by exact ho26), ?_⟩
 · rw [show rollD s.dat top bot n = { s.dat with Main := gRoll (shownD s.dat) top bot n } from by unfold rollD putD; rw [if_neg (show ¬ s.dat.OnAlt = true from by show ¬ s.OnAlt = true; first | exact hx | (rw [hx]; decide))], ← hd2]; exact ScrD.ext' rfl rfl (hd3.trans (by rw [hM2, hd2])) rfl rfl rfl rfl rfl rfl rfl rfl rfl rfl rfl rfl rfl rfl rfl rfl
theorem c_impl_Scr_roll_alt (b_s : Nat) (s : ScrR) (L_s : Hp) (top : Int) (bot : Int) (n : Int) (w : World) (hb_s : w.heap[b_s]? = some (Obj.cells (List.toArray [i64 s.W, i64 s.H, i64 s.Main.W, i64 s.Main.H, .slice s.Main.Cells.A s.Main.Cells.n s.Main.Cells.c, i64 s.Alt.W, i64 s.Alt.H, .slice s.Alt.Cells.A s.Alt.Cells.n s.Alt.Cells.c, .bool s.OnAlt, i64 s.X, i64 s.Y, .bool s.Wrap, i64 s.A.Fg, i64 s.A.Bg, .bool s.A.Bold, .bool s.A.Under, .bool s.A.Turn, i64 s.Top, i64 s.Bot, .bool s.NoWrap, .bool s.Hide, i64 s.SaveX, i64 s.SaveY, i64 s.SaveA.Fg, i64 s.SaveA.Bg, .bool s.SaveA.Bold, .bool s.SaveA.Under, .bool s.SaveA.Turn, .slice s.Tabs.A s.Tabs.n s.Tabs.c, i64 s.Limit, .slice s.Back.A s.Back.n s.Back.c]) 33 (0, 0))) (o_s : ownScrR s L_s) (h_s : ∀ p, p ∈ L_s → w.heap[p.1]? = some p.2) (hd_ : (b_s :: L_s.map (·.1)).Nodup) (hg : gridOk (shownD s.dat) = true) (ht : 0 ≤ top ∧ top ≤ bot ∧ bot < (shownD s.dat).H) (hn : -100000 ≤ n ∧ n ≤ 100000) (hsmB : smScr 549755813888 s.dat) (hx : s.OnAlt = true) :
    Calls Tryz.prog 210 #[.pointer (some ⟨b_s, 0, none⟩), i64 top, i64 bot, i64 n] w fun e w' => ∃ r L1, e = .returned (.tuple #[]) ∧ St w (b_s :: L_s.map (·.1)) ([(b_s, Obj.cells (List.toArray [i64 r.W, i64 r.H, i64 r.Main.W, i64 r.Main.H, .slice r.Main.Cells.A r.Main.Cells.n r.Main.Cells.c, i64 r.Alt.W, i64 r.Alt.H, .slice r.Alt.Cells.A r.Alt.Cells.n r.Alt.Cells.c, .bool r.OnAlt, i64 r.X, i64 r.Y, .bool r.Wrap, i64 r.A.Fg, i64 r.A.Bg, .bool r.A.Bold, .bool r.A.Under, .bool r.A.Turn, i64 r.Top, i64 r.Bot, .bool r.NoWrap, .bool r.Hide, i64 r.SaveX, i64 r.SaveY, i64 r.SaveA.Fg, i64 r.SaveA.Bg, .bool r.SaveA.Bold, .bool r.SaveA.Under, .bool r.SaveA.Turn, .slice r.Tabs.A r.Tabs.n r.Tabs.c, i64 r.Limit, .slice r.Back.A r.Back.n r.Back.c]) 33 (0, 0))] ++ L1) w' ∧ ownScrR r L1 ∧ r.dat = rollD s.dat top bot n := by
 refine enter (vs := [.pointer (some ⟨b_s, 0, none⟩), i64 top, i64 bot, i64 n]) 20 Tryz.func210 rfl Tryz.ntmps210 rfl rfl ?_
 have hs1 := St.takeP w b_s _ L_s hb_s h_s hd_
 refine WC.sr ?_
 refine WL.run tbk 1 hs1 [] rfl trivial ?_
 have hF2 : St _ _ ((_, _) :: (L_s ++ _)) _ := (St.perm (St.perm hs1 (L' := L_s ++ _) (perm_front (A := [_]) (List.Perm.refl _))) (L' := [_] ++ _) (perm_front (A := L_s) (List.Perm.refl _)))
 refine WL.call rfl rfl rfl (Run.call Tryz.call223 rfl rfl rfl) (c_impl_Scr_shown_alt _ s _ _ (St.headP hF2) o_s (St.ownP hF2) (St.nodupP hF2) ?_) ?_
 · first | (first | assumption | rfl | omega) | (assumption)
 rintro _ whs3 ⟨r4, L5, rfl, hs3, ho6, hd7⟩
 replace hs3 := St.lendP hF2 hs3
 refine ⟨_, rfl, ?_⟩
 have hd2 := hd7
 have hM2 : r4.Alt.dat = shownD s.dat := (congrArg ScrD.Alt hd2).trans (by unfold shownD; rw [if_pos (show  s.dat.OnAlt = true from by show  s.OnAlt = true; first | exact hx | (rw [hx]; decide))])
 have hg2 : gridOk r4.Alt.dat = true := by rw [hM2]; exact hg
 have ht2 : 0 ≤ top ∧ top ≤ bot ∧ bot < r4.Alt.H := by have h9 := congrArg GridD.H hM2; simp only [GridR.dat] at h9; rw [h9]; exact ht
 refine WL.run tbk 1 hs3 [] rfl trivial ?_
 refine WL.nil ?_
 refine WC.region ?_
 refine WL.run tbk 2 hs3 [] rfl trivial ?_
 refine WL.val rfl rfl rfl (Run.nilCheck rfl rfl) ?_
 refine WL.run tbk 4 hs3 [0] rfl ⟨rfl, trivial⟩ ?_
 refine WL.call rfl rfl rfl (Run.call Tryz.call249 rfl rfl rfl) (c_impl_Grid_roll r4.Alt _ _ _ _ (ownScrR.ok (B := 549755813888) ho6 (fun p_ hp_ => (hs3.own p_ (List.mem_append_right [_] (List.mem_append_left _ hp_))).1) (by rw [hd7]; assumption)).Alt ?_ ?_ ?_) ?_
 · first | (first | assumption | rfl | omega) | (assumption)
 · first | (first | assumption | rfl | omega) | (assumption)
 · first | (first | assumption | rfl | omega) | (assumption)
 rintro _ whs8 ⟨r9, L1_10, rfl, hs8, ho11, hd12⟩
 replace hs8 := hs3.callF hs8
 refine ⟨_, rfl, ?_⟩
 replace hs8 := St.back [_] hs8
 have hd3 := hd12
 refine WL.val rfl rfl rfl (Run.nilCheck rfl rfl) ?_
 refine WL.st tbk hs8 0 rfl rfl (fun _ hs13 => ?_)
 refine WL.nil ?_
 refine retK0 rfl ?_
 obtain ⟨L14, L15, L16, L17, hs22, ho18, ho19, ho20, ho21⟩ := ownScrR.open_ (St.perm hs13 (L' := L5 ++ _) (perm_front (A := [_]) (perm_front (A := L1_10) (List.Perm.refl _)))) ho6
 have hs23 := (St.perm hs22 (L' := [_] ++ _) (perm_front (A := L14) (perm_front (A := L15) (perm_front (A := L16) (perm_front (A := L17) (List.Perm.refl _))))))
 obtain ⟨L25, hs24, ho26⟩ := ownScrR.fold ⟨0, 0, ⟨0, 0, ⟨_, _, _, _⟩⟩, ⟨0, 0, ⟨_, _, _, _⟩⟩, false, 0, 0, false, ⟨0, 0, false, false, false⟩, 0, 0, false, false, 0, 0, ⟨0, 0, false, false, false⟩, ⟨_, _, _, _⟩, 0, ⟨_, _, _, _⟩⟩ (St.perm (St.perm (St.perm (St.perm hs23 (L' := L17 ++ _) (perm_front (A := [_]) (perm_front (A := L14) (perm_front (A := L15) (perm_front (A := L16) (List.Perm.refl _)))))) (L' := L16 ++ _) (perm_front (A := L17) (perm_front (A := [_]) (perm_front (A := L14) (perm_front (A := L15) (List.Perm.refl _)))))) (L' := L1_10 ++ _) (perm_front (A := L16) (perm_front (A := L17) (perm_front (A := [_]) (perm_front (A := L14) (perm_front (A := L15) (List.Perm.refl _))))))) (L' := L14 ++ _) (perm_front (A := L1_10) (perm_front (A := L16) (perm_front (A := L17) (perm_front (A := [_]) (List.Perm.refl _)))))) ho18 ho11 ho20 ho21
 have hs27 := (St.perm hs24 (L' := [_] ++ _) (perm_front (A := L25) (List.Perm.refl _)))
 refine ⟨⟨r4.W, r4.H, ⟨r4.Main.W, r4.Main.H, SlD.of ho18⟩, ⟨r9.W, r9.H, SlD.of ho11⟩, r4.OnAlt, r4.X, r4.Y, r4.Wrap, ⟨r4.A.Fg, r4.A.Bg, r4.A.Bold, r4.A.Under, r4.A.Turn⟩, r4.Top, r4.Bot, r4.NoWrap, r4.Hide, r4.SaveX, r4.SaveY, ⟨r4.SaveA.Fg, r4.SaveA.Bg, r4.SaveA.Bold, r4.SaveA.Under, r4.SaveA.Turn⟩, SlD.of ho20, r4.Limit, SlD.ofN ho21⟩, _, rfl, St.keepP (L1 := L25) (St.perm (St.perm hs27 (L' := L25 ++ _) (perm_front (A := [_]) (List.Perm.refl _))) (L' := [_] ++ _) (perm_front (A := L25) (List.Perm.refl _))), (by exact ho26), ?_⟩
 · rw [show rollD s.dat top bot n = { s.dat with Alt := gRoll (shownD s.dat) top bot n } from by unfold rollD putD; rw [if_pos (show  s.dat.OnAlt = true from by show  s.OnAlt = true; first | exact hx | (rw [hx]; decide))], ← hd2]; exact ScrD.ext' rfl rfl rfl (hd3.trans (by rw [hM2, hd2])) rfl rfl rfl rfl rfl rfl rfl rfl rfl rfl rfl rfl rfl rfl rfl
theorem c_impl_Scr_roll (b_s : Nat) (s : ScrR) (L_s : Hp) (top : Int) (bot : Int) (n : Int) (w : World) (hb_s : w.heap[b_s]? = some (Obj.cells (List.toArray [i64 s.W, i64 s.H, i64 s.Main.W, i64 s.Main.H, .slice s.Main.Cells.A s.Main.Cells.n s.Main.Cells.c, i64 s.Alt.W, i64 s.Alt.H, .slice s.Alt.Cells.A s.Alt.Cells.n s.Alt.Cells.c, .bool s.OnAlt, i64 s.X, i64 s.Y, .bool s.Wrap, i64 s.A.Fg, i64 s.A.Bg, .bool s.A.Bold, .bool s.A.Under, .bool s.A.Turn, i64 s.Top, i64 s.Bot, .bool s.NoWrap, .bool s.Hide, i64 s.SaveX, i64 s.SaveY, i64 s.SaveA.Fg, i64 s.SaveA.Bg, .bool s.SaveA.Bold, .bool s.SaveA.Under, .bool s.SaveA.Turn, .slice s.Tabs.A s.Tabs.n s.Tabs.c, i64 s.Limit, .slice s.Back.A s.Back.n s.Back.c]) 33 (0, 0))) (o_s : ownScrR s L_s) (h_s : ∀ p, p ∈ L_s → w.heap[p.1]? = some p.2) (hd_ : (b_s :: L_s.map (·.1)).Nodup) (hg : gridOk (shownD s.dat) = true) (ht : 0 ≤ top ∧ top ≤ bot ∧ bot < (shownD s.dat).H) (hn : -100000 ≤ n ∧ n ≤ 100000) (hsmB : smScr 549755813888 s.dat) :
    Calls Tryz.prog 210 #[.pointer (some ⟨b_s, 0, none⟩), i64 top, i64 bot, i64 n] w fun e w' => ∃ r L1, e = .returned (.tuple #[]) ∧ St w (b_s :: L_s.map (·.1)) ([(b_s, Obj.cells (List.toArray [i64 r.W, i64 r.H, i64 r.Main.W, i64 r.Main.H, .slice r.Main.Cells.A r.Main.Cells.n r.Main.Cells.c, i64 r.Alt.W, i64 r.Alt.H, .slice r.Alt.Cells.A r.Alt.Cells.n r.Alt.Cells.c, .bool r.OnAlt, i64 r.X, i64 r.Y, .bool r.Wrap, i64 r.A.Fg, i64 r.A.Bg, .bool r.A.Bold, .bool r.A.Under, .bool r.A.Turn, i64 r.Top, i64 r.Bot, .bool r.NoWrap, .bool r.Hide, i64 r.SaveX, i64 r.SaveY, i64 r.SaveA.Fg, i64 r.SaveA.Bg, .bool r.SaveA.Bold, .bool r.SaveA.Under, .bool r.SaveA.Turn, .slice r.Tabs.A r.Tabs.n r.Tabs.c, i64 r.Limit, .slice r.Back.A r.Back.n r.Back.c]) 33 (0, 0))] ++ L1) w' ∧ ownScrR r L1 ∧ r.dat = rollD s.dat top bot n := by
 rcases Bool.eq_false_or_eq_true s.OnAlt with hx_ | hx_
 · exact c_impl_Scr_roll_alt b_s s L_s top bot n w hb_s o_s h_s hd_ hg ht hn hsmB hx_
 · exact c_impl_Scr_roll_main b_s s L_s top bot n w hb_s o_s h_s hd_ hg ht hn hsmB hx_
theorem c_impl_Scr_rollUp (b_s : Nat) (s : ScrR) (L_s : Hp) (n : Int) (w : World) (hb_s : w.heap[b_s]? = some (Obj.cells (List.toArray [i64 s.W, i64 s.H, i64 s.Main.W, i64 s.Main.H, .slice s.Main.Cells.A s.Main.Cells.n s.Main.Cells.c, i64 s.Alt.W, i64 s.Alt.H, .slice s.Alt.Cells.A s.Alt.Cells.n s.Alt.Cells.c, .bool s.OnAlt, i64 s.X, i64 s.Y, .bool s.Wrap, i64 s.A.Fg, i64 s.A.Bg, .bool s.A.Bold, .bool s.A.Under, .bool s.A.Turn, i64 s.Top, i64 s.Bot, .bool s.NoWrap, .bool s.Hide, i64 s.SaveX, i64 s.SaveY, i64 s.SaveA.Fg, i64 s.SaveA.Bg, .bool s.SaveA.Bold, .bool s.SaveA.Under, .bool s.SaveA.Turn, .slice s.Tabs.A s.Tabs.n s.Tabs.c, i64 s.Limit, .slice s.Back.A s.Back.n s.Back.c]) 33 (0, 0))) (o_s : ownScrR s L_s) (h_s : ∀ p, p ∈ L_s → w.heap[p.1]? = some p.2) (hd_ : (b_s :: L_s.map (·.1)).Nodup) (hf : ScrFine s.dat) (hn : 0 ≤ n ∧ n ≤ 100000) (hsm : smScr 1048576 s.dat) :
    Calls Tryz.prog 209 #[.pointer (some ⟨b_s, 0, none⟩), i64 n] w fun e w' => ∃ r L1, e = .returned (.tuple #[]) ∧ St w (b_s :: L_s.map (·.1)) ([(b_s, Obj.cells (List.toArray [i64 r.W, i64 r.H, i64 r.Main.W, i64 r.Main.H, .slice r.Main.Cells.A r.Main.Cells.n r.Main.Cells.c, i64 r.Alt.W, i64 r.Alt.H, .slice r.Alt.Cells.A r.Alt.Cells.n r.Alt.Cells.c, .bool r.OnAlt, i64 r.X, i64 r.Y, .bool r.Wrap, i64 r.A.Fg, i64 r.A.Bg, .bool r.A.Bold, .bool r.A.Under, .bool r.A.Turn, i64 r.Top, i64 r.Bot, .bool r.NoWrap, .bool r.Hide, i64 r.SaveX, i64 r.SaveY, i64 r.SaveA.Fg, i64 r.SaveA.Bg, .bool r.SaveA.Bold, .bool r.SaveA.Under, .bool r.SaveA.Turn, .slice r.Tabs.A r.Tabs.n r.Tabs.c, i64 r.Limit, .slice r.Back.A r.Back.n r.Back.c]) 33 (0, 0))] ++ L1) w' ∧ ownScrR r L1 ∧ r.dat = rollUpD s.dat n := by
 have hsmB : smScr 549755813888 s.dat := by first | assumption | exact smScr_mono hsm (by decide)
 have hok9 := hf.ok
 obtain ⟨hb1, hb2, hb3, hb4, hb5, hb6⟩ := scrOk_bnd hok9
 obtain ⟨hm, hma⟩ := scrOk_main hok9
 simp only [ScrR.dat, GridR.dat, List.length_map] at hb1 hb2 hb3 hb4 hb5 hb6
 have hgs0 : gridOk (shownD s.dat) = true := hf.shown.1
 have hts0 : 0 ≤ s.Top ∧ s.Top ≤ s.Bot ∧ s.Bot < (shownD s.dat).H := by rw [hf.shown.2.2]; exact ⟨hf.reg.1.1, hf.reg.1.2, hf.reg.2.1⟩
 refine enter (vs := [.pointer (some ⟨b_s, 0, none⟩), i64 n]) 36 Tryz.func209 rfl Tryz.ntmps209 rfl rfl ?_
 have hs1 := St.takeP w b_s _ L_s hb_s h_s hd_
 refine WC.seq (fun K2 hK2 => ?_)
 refine WC.sr ?_
 refine WL.run tbk 1 hs1 [] rfl trivial ?_
 refine WL.val rfl rfl rfl (Run.nilCheck rfl rfl) ?_
 refine WL.run tbk 4 hs1 [0] rfl ⟨rfl, trivial⟩ ?_
 apply WL.gA 5 Acts.nil hs1 rfl
 ·intro g3 J4
  have qg3 := g3
  try simp only [bf, within_iff, within_not] at qg3
  refine WL.runA tbk 1 (Acts.nil.cons (j := 5) rfl g3) hs1 [] rfl trivial ?_
  refine WL.val (wantT rfl g3) rfl rfl (Run.nilCheck rfl rfl) ?_
  refine WL.runA tbk 3 (Acts.nil.cons (j := 5) rfl g3) hs1 [0] rfl ⟨rfl, trivial⟩ ?_
  exact WL.eA 5 Acts.nil J4 hs1 g3 rfl rfl
 ·intro _ hs5
  refine WL.nil ?_
  refine WC.cond rfl (fun h6 => ?_) (fun h6 => ?_)
  ·have qh6 := h6
   try simp only [bf, within_iff, within_not] at qh6
   have hk : keepD s.dat n = keepRows s.dat (min n (s.Bot + 1)).toNat := by unfold keepD; rw [if_pos (by show s.OnAlt = false ∧ s.Top = 0; have h9 := h6; simpa using h9)]; rfl
   refine WC.region ?_
   refine WL.run tbk 3 hs5 [] rfl trivial ?_
   refine WL.val rfl rfl rfl (Run.nilCheck rfl rfl) ?_
   refine WL.run tbk 3 hs5 [0] rfl ⟨by omega, rfl, trivial⟩ ?_
   refine WL.val rfl rfl rfl (Run.asN ((min n (s.Bot + 1)).toNat) (Run.min rfl rfl rfl) ?_) ?_
   · omega
   have hF7 : St _ _ ((_, _) :: (L_s ++ _)) _ := (St.perm (St.perm hs5 (L' := L_s ++ _) (perm_front (A := [_]) (List.Perm.refl _))) (L' := [_] ++ _) (perm_front (A := L_s) (List.Perm.refl _)))
   refine WL.call rfl rfl rfl (Run.call Tryz.call248 rfl rfl rfl) (c_impl_Scr_keep _ s _ _ _ (St.headP hF7) o_s (St.ownP hF7) (St.nodupP hF7) ?_ ?_ ?_ ?_ ?_) ?_
   · first | (first | assumption | rfl | omega) | (first | assumption | omega)
   · first | (first | assumption | rfl | omega) | (first | assumption | omega)
   · first | (first | assumption | rfl | omega) | (first | assumption | omega)
   · first | (first | assumption | rfl | omega) | (first | assumption | omega)
   · first | (first | assumption | rfl | omega) | (first | assumption | omega)
   rintro _ whs8 ⟨r9, L10, rfl, hs8, ho11, hd12⟩
   replace hs8 := St.lendP hF7 hs8
   refine ⟨_, rfl, ?_⟩
   have hkr : r9.dat = keepD s.dat n := hd12.trans hk.symm
   have hfr : ScrFine r9.dat := by rw [hkr]; exact hf.keep
   have hsr : smScr 549755813888 r9.dat := by rw [hd12]; exact keepRows_sm hsmB hm (by decide) (by show s.Limit.toNat ≤ _; omega)
   have hgs : gridOk (shownD r9.dat) = true := hfr.shown.1
   have hts : 0 ≤ r9.Top ∧ r9.Top ≤ r9.Bot ∧ r9.Bot < (shownD r9.dat).H := by rw [hfr.shown.2.2]; exact ⟨hfr.reg.1.1, hfr.reg.1.2, hfr.reg.2.1⟩
   have hrT : r9.Top = s.Top := (congrArg ScrD.Top hkr).trans keepD_eqs.2.1
   have hrB : r9.Bot = s.Bot := (congrArg ScrD.Bot hkr).trans keepD_eqs.2.2.1
   refine WL.nil ?_
   refine hK2 _ _ ?_
   refine WC.regionH2 (fun w' => St _ _ _ w') (fun w' => St _ _ _ w') mixed (St.drew (St.drop (St.drop hs8 (List.sublist_append_right [_] _)) (List.sublist_append_right L10 _))) (St.drew hs8) (fun whs13 hs13 => ?_)
   replace hs13 : St _ _ _ _ := hs13
   refine WH.take 0 rfl (by kernel_rfl) rfl rfl rfl (St.drop (St.drop hs13 (List.sublist_append_right [_] _)) (List.sublist_append_right L10 _)) (fun w_ hs_ => (Run.move rfl rfl)) ?_
   refine WH.take 1 rfl (by kernel_rfl) rfl rfl rfl (St.drop (St.drop hs13 (List.sublist_append_right [_] _)) (List.sublist_append_right L10 _)) (fun w_ hs_ => (Run.move rfl rfl)) ?_
   refine WH.take 2 rfl (by kernel_rfl) rfl rfl rfl (St.drop (St.drop hs13 (List.sublist_append_right [_] _)) (List.sublist_append_right L10 _)) (fun w_ hs_ => (Run.nilCheck rfl rfl)) ?_
   refine WH.take 3 rfl (by kernel_rfl) rfl rfl rfl (St.drop (St.drop hs13 (List.sublist_append_right [_] _)) (List.sublist_append_right L10 _)) (fun w_ hs_ => (Run.field Tryz.runUnderlying33 rfl rfl rfl Tryz.sizeOf3 rfl)) ?_
   refine WH.take 5 rfl (by kernel_rfl) rfl rfl rfl (St.drop (St.drop hs13 (List.sublist_append_right [_] _)) (List.sublist_append_right L10 _)) (fun w_ hs_ => (Run.move rfl rfl)) ?_
   refine WH.take 6 rfl (by kernel_rfl) rfl rfl rfl (St.drop (St.drop hs13 (List.sublist_append_right [_] _)) (List.sublist_append_right L10 _)) (fun w_ hs_ => (Run.nilCheck rfl rfl)) ?_
   refine WH.take 7 rfl (by kernel_rfl) rfl rfl rfl (St.drop (St.drop hs13 (List.sublist_append_right [_] _)) (List.sublist_append_right L10 _)) (fun w_ hs_ => (Run.field Tryz.runUnderlying33 rfl rfl rfl Tryz.sizeOf3 rfl)) ?_
   refine WH.take 9 rfl (by kernel_rfl) rfl rfl rfl (St.drop (St.drop hs13 (List.sublist_append_right [_] _)) (List.sublist_append_right L10 _)) (fun w_ hs_ => (Run.move rfl rfl)) ?_
   refine WH.all [4, 8] (by kernel_rfl) rfl (WHs.cons (i := 4) rfl ?_ (WHs.cons (i := 8) rfl ?_ WHs.nil))
   ·refine WL.run tbk 1 hs13 [0] rfl ⟨rfl, trivial⟩ ?_
    refine WL.nil ⟨(St.drop (St.drop hs13 (List.sublist_append_right [_] _)) (List.sublist_append_right L10 _)), ?_⟩
    refine WH.all [8] (by kernel_rfl) rfl (WHs.cons (i := 8) rfl ?_ WHs.nil)
    refine WL.run tbk 1 hs13 [0] rfl ⟨rfl, trivial⟩ ?_
    refine WL.nil ⟨(St.drop (St.drop hs13 (List.sublist_append_right [_] _)) (List.sublist_append_right L10 _)), ?_⟩
    refine WH.all [10] (by kernel_rfl) rfl (WHs.cons (i := 10) rfl ?_ WHs.nil)
    have hF14 : St _ _ ((_, _) :: (L10 ++ _)) _ := (St.perm (St.perm hs13 (L' := L10 ++ _) (perm_front (A := [_]) (List.Perm.refl _))) (L' := [_] ++ _) (perm_front (A := L10) (List.Perm.refl _)))
    refine WL.call rfl rfl rfl (Run.call Tryz.call210 rfl rfl rfl) (c_impl_Scr_roll _ r9 _ _ _ _ _ (St.headP hF14) ho11 (St.ownP hF14) (St.nodupP hF14) ?_ ?_ ?_ ?_) ?_
    · first | (first | assumption | rfl | omega) | (first | assumption | omega)
    · first | (first | assumption | rfl | omega) | (first | assumption | omega)
    · first | (first | assumption | rfl | omega) | (first | assumption | omega)
    · first | (first | assumption | rfl | omega) | (first | assumption | omega)
    rintro _ whs15 ⟨r16, L17, rfl, hs15, ho18, hd19⟩
    replace hs15 := St.lendP hF14 hs15
    refine ⟨_, rfl, ?_⟩
    refine WL.nil ⟨(St.drop (St.drop hs15 (List.sublist_append_right [_] _)) (List.sublist_append_right L17 _)), ?_⟩
    refine WH.done (by kernel_rfl) ?_
    refine retK0 rfl ?_
    refine ⟨r16, _, rfl, St.keepP (L1 := L17) (St.perm (St.perm hs15 (L' := L17 ++ _) (perm_front (A := [_]) (List.Perm.refl _))) (L' := [_] ++ _) (perm_front (A := L17) (List.Perm.refl _))), ho18, ?_⟩
    · refine hd19.trans ?_; unfold rollUpD; first | (rw [hkr, hrT, hrB]; rfl) | (rw [hk]; rfl)
   ·refine WL.run tbk 1 hs13 [0] rfl ⟨rfl, trivial⟩ ?_
    refine WL.nil ⟨(St.drop (St.drop hs13 (List.sublist_append_right [_] _)) (List.sublist_append_right L10 _)), ?_⟩
    refine WH.all [4] (by kernel_rfl) rfl (WHs.cons (i := 4) rfl ?_ WHs.nil)
    refine WL.run tbk 1 hs13 [0] rfl ⟨rfl, trivial⟩ ?_
    refine WL.nil ⟨(St.drop (St.drop hs13 (List.sublist_append_right [_] _)) (List.sublist_append_right L10 _)), ?_⟩
    refine WH.all [10] (by kernel_rfl) rfl (WHs.cons (i := 10) rfl ?_ WHs.nil)
    have hF20 : St _ _ ((_, _) :: (L10 ++ _)) _ := (St.perm (St.perm hs13 (L' := L10 ++ _) (perm_front (A := [_]) (List.Perm.refl _))) (L' := [_] ++ _) (perm_front (A := L10) (List.Perm.refl _)))
    refine WL.call rfl rfl rfl (Run.call Tryz.call210 rfl rfl rfl) (c_impl_Scr_roll _ r9 _ _ _ _ _ (St.headP hF20) ho11 (St.ownP hF20) (St.nodupP hF20) ?_ ?_ ?_ ?_) ?_
    · first | (first | assumption | rfl | omega) | (first | assumption | omega)
    · first | (first | assumption | rfl | omega) | (first | assumption | omega)
    · first | (first | assumption | rfl | omega) | (first | assumption | omega)
    · first | (first | assumption | rfl | omega) | (first | assumption | omega)
    rintro _ whs21 ⟨r22, L23, rfl, hs21, ho24, hd25⟩
    replace hs21 := St.lendP hF20 hs21
    refine ⟨_, rfl, ?_⟩
    refine WL.nil ⟨(St.drop (St.drop hs21 (List.sublist_append_right [_] _)) (List.sublist_append_right L23 _)), ?_⟩
    refine WH.done (by kernel_rfl) ?_
    refine retK0 rfl ?_
    refine ⟨r22, _, rfl, St.keepP (L1 := L23) (St.perm (St.perm hs21 (L' := L23 ++ _) (perm_front (A := [_]) (List.Perm.refl _))) (L' := [_] ++ _) (perm_front (A := L23) (List.Perm.refl _))), ho24, ?_⟩
    · refine hd25.trans ?_; unfold rollUpD; first | (rw [hkr, hrT, hrB]; rfl) | (rw [hk]; rfl)
  ·have qh6 := h6
   try simp only [bf, within_iff, within_not] at qh6
   have hk : keepD s.dat n = s.dat := by unfold keepD; rw [if_neg (by show ¬ (s.OnAlt = false ∧ s.Top = 0); have h9 := h6; simpa using h9)]
   refine WC.skip ?_
   refine hK2 _ _ ?_
   refine WC.regionH2 (fun w' => St _ _ _ w') (fun w' => St _ _ _ w') mixed (St.drew (St.drop (St.drop hs5 (List.sublist_append_right [_] _)) (List.sublist_append_right L_s _))) (St.drew hs5) (fun whs26 hs26 => ?_)
   replace hs26 : St _ _ _ _ := hs26
   refine WH.take 0 rfl (by kernel_rfl) rfl rfl rfl (St.drop (St.drop hs26 (List.sublist_append_right [_] _)) (List.sublist_append_right L_s _)) (fun w_ hs_ => (Run.move rfl rfl)) ?_
   refine WH.take 1 rfl (by kernel_rfl) rfl rfl rfl (St.drop (St.drop hs26 (List.sublist_append_right [_] _)) (List.sublist_append_right L_s _)) (fun w_ hs_ => (Run.move rfl rfl)) ?_
   refine WH.take 2 rfl (by kernel_rfl) rfl rfl rfl (St.drop (St.drop hs26 (List.sublist_append_right [_] _)) (List.sublist_append_right L_s _)) (fun w_ hs_ => (Run.nilCheck rfl rfl)) ?_
   refine WH.take 3 rfl (by kernel_rfl) rfl rfl rfl (St.drop (St.drop hs26 (List.sublist_append_right [_] _)) (List.sublist_append_right L_s _)) (fun w_ hs_ => (Run.field Tryz.runUnderlying33 rfl rfl rfl Tryz.sizeOf3 rfl)) ?_
   refine WH.take 5 rfl (by kernel_rfl) rfl rfl rfl (St.drop (St.drop hs26 (List.sublist_append_right [_] _)) (List.sublist_append_right L_s _)) (fun w_ hs_ => (Run.move rfl rfl)) ?_
   refine WH.take 6 rfl (by kernel_rfl) rfl rfl rfl (St.drop (St.drop hs26 (List.sublist_append_right [_] _)) (List.sublist_append_right L_s _)) (fun w_ hs_ => (Run.nilCheck rfl rfl)) ?_
   refine WH.take 7 rfl (by kernel_rfl) rfl rfl rfl (St.drop (St.drop hs26 (List.sublist_append_right [_] _)) (List.sublist_append_right L_s _)) (fun w_ hs_ => (Run.field Tryz.runUnderlying33 rfl rfl rfl Tryz.sizeOf3 rfl)) ?_
   refine WH.take 9 rfl (by kernel_rfl) rfl rfl rfl (St.drop (St.drop hs26 (List.sublist_append_right [_] _)) (List.sublist_append_right L_s _)) (fun w_ hs_ => (Run.move rfl rfl)) ?_
   refine WH.all [4, 8] (by kernel_rfl) rfl (WHs.cons (i := 4) rfl ?_ (WHs.cons (i := 8) rfl ?_ WHs.nil))
   ·refine WL.run tbk 1 hs26 [0] rfl ⟨rfl, trivial⟩ ?_
    refine WL.nil ⟨(St.drop (St.drop hs26 (List.sublist_append_right [_] _)) (List.sublist_append_right L_s _)), ?_⟩
    refine WH.all [8] (by kernel_rfl) rfl (WHs.cons (i := 8) rfl ?_ WHs.nil)
    refine WL.run tbk 1 hs26 [0] rfl ⟨rfl, trivial⟩ ?_
    refine WL.nil ⟨(St.drop (St.drop hs26 (List.sublist_append_right [_] _)) (List.sublist_append_right L_s _)), ?_⟩
    refine WH.all [10] (by kernel_rfl) rfl (WHs.cons (i := 10) rfl ?_ WHs.nil)
    have hF27 : St _ _ ((_, _) :: (L_s ++ _)) _ := (St.perm (St.perm hs26 (L' := L_s ++ _) (perm_front (A := [_]) (List.Perm.refl _))) (L' := [_] ++ _) (perm_front (A := L_s) (List.Perm.refl _)))
    refine WL.call rfl rfl rfl (Run.call Tryz.call210 rfl rfl rfl) (c_impl_Scr_roll _ s _ _ _ _ _ (St.headP hF27) o_s (St.ownP hF27) (St.nodupP hF27) ?_ ?_ ?_ ?_) ?_
    · first | (first | assumption | rfl | omega) | (first | assumption | omega)
    · first | (first | assumption | rfl | omega) | (first | assumption | omega)
    · first | (first | assumption | rfl | omega) | (first | assumption | omega)
    · first | (first | assumption | rfl | omega) | (first | assumption | omega)
    rintro _ whs28 ⟨r29, L30, rfl, hs28, ho31, hd32⟩
    replace hs28 := St.lendP hF27 hs28
    refine ⟨_, rfl, ?_⟩
    refine WL.nil ⟨(St.drop (St.drop hs28 (List.sublist_append_right [_] _)) (List.sublist_append_right L30 _)), ?_⟩
    refine WH.done (by kernel_rfl) ?_
    refine retK0 rfl ?_
    refine ⟨r29, _, rfl, St.keepP (L1 := L30) (St.perm (St.perm hs28 (L' := L30 ++ _) (perm_front (A := [_]) (List.Perm.refl _))) (L' := [_] ++ _) (perm_front (A := L30) (List.Perm.refl _))), ho31, ?_⟩
    · refine hd32.trans ?_; unfold rollUpD; first | (rw [hkr, hrT, hrB]; rfl) | (rw [hk]; rfl)
   ·refine WL.run tbk 1 hs26 [0] rfl ⟨rfl, trivial⟩ ?_
    refine WL.nil ⟨(St.drop (St.drop hs26 (List.sublist_append_right [_] _)) (List.sublist_append_right L_s _)), ?_⟩
    refine WH.all [4] (by kernel_rfl) rfl (WHs.cons (i := 4) rfl ?_ WHs.nil)
    refine WL.run tbk 1 hs26 [0] rfl ⟨rfl, trivial⟩ ?_
    refine WL.nil ⟨(St.drop (St.drop hs26 (List.sublist_append_right [_] _)) (List.sublist_append_right L_s _)), ?_⟩
    refine WH.all [10] (by kernel_rfl) rfl (WHs.cons (i := 10) rfl ?_ WHs.nil)
    have hF33 : St _ _ ((_, _) :: (L_s ++ _)) _ := (St.perm (St.perm hs26 (L' := L_s ++ _) (perm_front (A := [_]) (List.Perm.refl _))) (L' := [_] ++ _) (perm_front (A := L_s) (List.Perm.refl _)))
    refine WL.call rfl rfl rfl (Run.call Tryz.call210 rfl rfl rfl) (c_impl_Scr_roll _ s _ _ _ _ _ (St.headP hF33) o_s (St.ownP hF33) (St.nodupP hF33) ?_ ?_ ?_ ?_) ?_
    · first | (first | assumption | rfl | omega) | (first | assumption | omega)
    · first | (first | assumption | rfl | omega) | (first | assumption | omega)
    · first | (first | assumption | rfl | omega) | (first | assumption | omega)
    · first | (first | assumption | rfl | omega) | (first | assumption | omega)
    rintro _ whs34 ⟨r35, L36, rfl, hs34, ho37, hd38⟩
    replace hs34 := St.lendP hF33 hs34
    refine ⟨_, rfl, ?_⟩
    refine WL.nil ⟨(St.drop (St.drop hs34 (List.sublist_append_right [_] _)) (List.sublist_append_right L36 _)), ?_⟩
    refine WH.done (by kernel_rfl) ?_
    refine retK0 rfl ?_
    refine ⟨r35, _, rfl, St.keepP (L1 := L36) (St.perm (St.perm hs34 (L' := L36 ++ _) (perm_front (A := [_]) (List.Perm.refl _))) (L' := [_] ++ _) (perm_front (A := L36) (List.Perm.refl _))), ho37, ?_⟩
    · refine hd38.trans ?_; unfold rollUpD; first | (rw [hkr, hrT, hrB]; rfl) | (rw [hk]; rfl)
theorem c_impl_Scr_down (b_s : Nat) (s : ScrR) (L_s : Hp) (w : World) (hb_s : w.heap[b_s]? = some (Obj.cells (List.toArray [i64 s.W, i64 s.H, i64 s.Main.W, i64 s.Main.H, .slice s.Main.Cells.A s.Main.Cells.n s.Main.Cells.c, i64 s.Alt.W, i64 s.Alt.H, .slice s.Alt.Cells.A s.Alt.Cells.n s.Alt.Cells.c, .bool s.OnAlt, i64 s.X, i64 s.Y, .bool s.Wrap, i64 s.A.Fg, i64 s.A.Bg, .bool s.A.Bold, .bool s.A.Under, .bool s.A.Turn, i64 s.Top, i64 s.Bot, .bool s.NoWrap, .bool s.Hide, i64 s.SaveX, i64 s.SaveY, i64 s.SaveA.Fg, i64 s.SaveA.Bg, .bool s.SaveA.Bold, .bool s.SaveA.Under, .bool s.SaveA.Turn, .slice s.Tabs.A s.Tabs.n s.Tabs.c, i64 s.Limit, .slice s.Back.A s.Back.n s.Back.c]) 33 (0, 0))) (o_s : ownScrR s L_s) (h_s : ∀ p, p ∈ L_s → w.heap[p.1]? = some p.2) (hd_ : (b_s :: L_s.map (·.1)).Nodup) (hf : ScrFine s.dat) (hsm : smScr 1048576 s.dat) :
    Calls Tryz.prog 151 #[.pointer (some ⟨b_s, 0, none⟩)] w fun e w' => ∃ r L1, e = .returned (.tuple #[]) ∧ St w (b_s :: L_s.map (·.1)) ([(b_s, Obj.cells (List.toArray [i64 r.W, i64 r.H, i64 r.Main.W, i64 r.Main.H, .slice r.Main.Cells.A r.Main.Cells.n r.Main.Cells.c, i64 r.Alt.W, i64 r.Alt.H, .slice r.Alt.Cells.A r.Alt.Cells.n r.Alt.Cells.c, .bool r.OnAlt, i64 r.X, i64 r.Y, .bool r.Wrap, i64 r.A.Fg, i64 r.A.Bg, .bool r.A.Bold, .bool r.A.Under, .bool r.A.Turn, i64 r.Top, i64 r.Bot, .bool r.NoWrap, .bool r.Hide, i64 r.SaveX, i64 r.SaveY, i64 r.SaveA.Fg, i64 r.SaveA.Bg, .bool r.SaveA.Bold, .bool r.SaveA.Under, .bool r.SaveA.Turn, .slice r.Tabs.A r.Tabs.n r.Tabs.c, i64 r.Limit, .slice r.Back.A r.Back.n r.Back.c]) 33 (0, 0))] ++ L1) w' ∧ ownScrR r L1 ∧ r.dat = downD s.dat := by
 have hsmB : smScr 549755813888 s.dat := by first | assumption | exact smScr_mono hsm (by decide)
 have hok9 := hf.ok
 obtain ⟨hb1, hb2, hb3, hb4, hb5, hb6⟩ := scrOk_bnd hok9
 obtain ⟨hm, hma⟩ := scrOk_main hok9
 simp only [ScrR.dat, GridR.dat, List.length_map] at hb1 hb2 hb3 hb4 hb5 hb6
 have hgs0 : gridOk (shownD s.dat) = true := hf.shown.1
 have hts0 : 0 ≤ s.Top ∧ s.Top ≤ s.Bot ∧ s.Bot < (shownD s.dat).H := by rw [hf.shown.2.2]; exact ⟨hf.reg.1.1, hf.reg.1.2, hf.reg.2.1⟩
 refine enter (vs := [.pointer (some ⟨b_s, 0, none⟩)]) 35 Tryz.func151 rfl Tryz.ntmps151 rfl rfl ?_
 have hs1 := St.takeP w b_s _ L_s hb_s h_s hd_
 refine WC.seq (fun K2 hK2 => ?_)
 refine WC.block ?_
 refine WC.sq hs1 mixed (by kernel_rfl) ?_
 refine WQ.run tbk 1 [] rfl trivial ?_
 refine WQ.val rfl rfl rfl (fun w_ hs_ => (Run.nilCheck rfl rfl)) ?_
 refine WQ.run tbk 3 [0] rfl ⟨rfl, trivial⟩ ?_
 refine WQ.val rfl rfl rfl (fun w_ hs_ => (Run.nilCheck rfl rfl)) ?_
 refine WQ.run tbk 4 [0] rfl ⟨rfl, trivial⟩ ?_
 refine WQ.nil (fun _ (hs3 : St _ _ _ _) => ?_)
 refine WC.cond rfl (fun h4 => ?_) (fun h4 => ?_)
 ·have qh4 := h4
  try simp only [bf, within_iff, within_not] at qh4
  have e1 : s.dat.Y = s.dat.Bot := by show s.Y = s.Bot; have h9 := h4; simpa using h9
  refine WC.region ?_
  refine WL.run tbk 1 hs3 [] rfl trivial ?_
  have hF5 : St _ _ ((_, _) :: (L_s ++ _)) _ := (St.perm (St.perm hs3 (L' := L_s ++ _) (perm_front (A := [_]) (List.Perm.refl _))) (L' := [_] ++ _) (perm_front (A := L_s) (List.Perm.refl _)))
  refine WL.call rfl rfl rfl (Run.call Tryz.call209 rfl rfl rfl) (c_impl_Scr_rollUp _ s _ _ _ (St.headP hF5) o_s (St.ownP hF5) (St.nodupP hF5) ?_ ?_ ?_) ?_
  · first | (first | assumption | rfl | omega) | (first | assumption | omega)
  · first | (first | assumption | rfl | omega) | (first | assumption | omega)
  · first | (first | assumption | rfl | omega) | (first | assumption | omega)
  rintro _ whs6 ⟨r7, L8, rfl, hs6, ho9, hd10⟩
  replace hs6 := St.lendP hF5 hs6
  refine ⟨_, rfl, ?_⟩
  have hd3 := hd10
  refine WL.nil ?_
  refine hK2 _ _ ?_
  refine WC.region ?_
  refine WL.run tbk 1 hs6 [] rfl trivial ?_
  refine WL.val rfl rfl rfl (Run.nilCheck rfl rfl) ?_
  refine WL.run tbk 1 hs6 [] rfl trivial ?_
  refine WL.st tbk hs6 0 rfl rfl (fun _ hs11 => ?_)
  refine WL.nil ?_
  refine retK0 rfl ?_
  obtain ⟨L12, L13, L14, L15, hs20, ho16, ho17, ho18, ho19⟩ := ownScrR.open_ (St.perm hs11 (L' := L8 ++ _) (perm_front (A := [_]) (List.Perm.refl _))) ho9
  have hs21 := (St.perm hs20 (L' := [_] ++ _) (perm_front (A := L12) (perm_front (A := L13) (perm_front (A := L14) (perm_front (A := L15) (List.Perm.refl _))))))
  obtain ⟨L23, hs22, ho24⟩ := ownScrR.fold ⟨0, 0, ⟨0, 0, ⟨_, _, _, _⟩⟩, ⟨0, 0, ⟨_, _, _, _⟩⟩, false, 0, 0, false, ⟨0, 0, false, false, false⟩, 0, 0, false, false, 0, 0, ⟨0, 0, false, false, false⟩, ⟨_, _, _, _⟩, 0, ⟨_, _, _, _⟩⟩ (St.perm (St.perm (St.perm (St.perm hs21 (L' := L15 ++ _) (perm_front (A := [_]) (perm_front (A := L12) (perm_front (A := L13) (perm_front (A := L14) (List.Perm.refl _)))))) (L' := L14 ++ _) (perm_front (A := L15) (perm_front (A := [_]) (perm_front (A := L12) (perm_front (A := L13) (List.Perm.refl _)))))) (L' := L13 ++ _) (perm_front (A := L14) (perm_front (A := L15) (perm_front (A := [_]) (perm_front (A := L12) (List.Perm.refl _)))))) (L' := L12 ++ _) (perm_front (A := L13) (perm_front (A := L14) (perm_front (A := L15) (perm_front (A := [_]) (List.Perm.refl _)))))) ho16 ho17 ho18 ho19
  have hs25 := (St.perm hs22 (L' := [_] ++ _) (perm_front (A := L23) (List.Perm.refl _)))
  refine ⟨⟨r7.W, r7.H, ⟨r7.Main.W, r7.Main.H, SlD.of ho16⟩, ⟨r7.Alt.W, r7.Alt.H, SlD.of ho17⟩, r7.OnAlt, r7.X, r7.Y, false, ⟨r7.A.Fg, r7.A.Bg, r7.A.Bold, r7.A.Under, r7.A.Turn⟩, r7.Top, r7.Bot, r7.NoWrap, r7.Hide, r7.SaveX, r7.SaveY, ⟨r7.SaveA.Fg, r7.SaveA.Bg, r7.SaveA.Bold, r7.SaveA.Under, r7.SaveA.Turn⟩, SlD.of ho18, r7.Limit, SlD.ofN ho19⟩, _, rfl, St.keepP (L1 := L23) (St.perm (St.perm hs25 (L' := L23 ++ _) (perm_front (A := [_]) (List.Perm.refl _))) (L' := [_] ++ _) (perm_front (A := L23) (List.Perm.refl _))), (by exact ho24), ?_⟩
  · unfold downD; first | (rw [if_pos e1, ← hd3]; rfl) | (rw [if_neg e1, if_pos e2]; rfl) | (rw [if_neg e1, if_neg e2]; rfl)
 ·have qh4 := h4
  try simp only [bf, within_iff, within_not] at qh4
  have e1 : ¬ s.dat.Y = s.dat.Bot := by show ¬ s.Y = s.Bot; have h9 := h4; simpa using h9
  refine WC.sq hs3 mixed (by kernel_rfl) ?_
  refine WQ.run tbk 1 [] rfl trivial ?_
  refine WQ.val rfl rfl rfl (fun w_ hs_ => (Run.nilCheck rfl rfl)) ?_
  refine WQ.run tbk 3 [0] rfl ⟨rfl, trivial⟩ ?_
  refine WQ.val rfl rfl rfl (fun w_ hs_ => (Run.nilCheck rfl rfl)) ?_
  refine WQ.run tbk 5 [0] rfl ⟨by omega, rfl, trivial⟩ ?_
  refine WQ.nil (fun _ (hs26 : St _ _ _ _) => ?_)
  refine WC.cond rfl (fun h27 => ?_) (fun h27 => ?_)
  ·have qh27 := h27
   try simp only [bf, within_iff, within_not] at qh27
   have e2 : s.dat.Y < s.dat.H - 1 := by show s.Y < s.H - 1; have h9 := h27; simpa using h9
   refine WC.region ?_
   refine WL.run tbk 1 hs26 [] rfl trivial ?_
   refine WL.val rfl rfl rfl (Run.nilCheck rfl rfl) ?_
   refine WL.run tbk 3 hs26 [0] rfl ⟨by omega, rfl, trivial⟩ ?_
   refine WL.val rfl rfl rfl (Run.nilCheck rfl rfl) ?_
   refine WL.run tbk 1 hs26 [] rfl trivial ?_
   refine WL.st tbk hs26 0 rfl rfl (fun _ hs28 => ?_)
   refine WL.nil ?_
   refine hK2 _ _ ?_
   refine WC.region ?_
   refine WL.run tbk 1 hs28 [] rfl trivial ?_
   refine WL.val rfl rfl rfl (Run.nilCheck rfl rfl) ?_
   refine WL.run tbk 1 hs28 [] rfl trivial ?_
   refine WL.st tbk hs28 0 rfl rfl (fun _ hs29 => ?_)
   refine WL.nil ?_
   refine retK0 rfl ?_
   obtain ⟨L30, L31, L32, L33, hs38, ho34, ho35, ho36, ho37⟩ := ownScrR.open_ (St.perm hs29 (L' := L_s ++ _) (perm_front (A := [_]) (List.Perm.refl _))) o_s
   have hs39 := (St.perm hs38 (L' := [_] ++ _) (perm_front (A := L30) (perm_front (A := L31) (perm_front (A := L32) (perm_front (A := L33) (List.Perm.refl _))))))
   obtain ⟨L41, hs40, ho42⟩ := ownScrR.fold ⟨0, 0, ⟨0, 0, ⟨_, _, _, _⟩⟩, ⟨0, 0, ⟨_, _, _, _⟩⟩, false, 0, 0, false, ⟨0, 0, false, false, false⟩, 0, 0, false, false, 0, 0, ⟨0, 0, false, false, false⟩, ⟨_, _, _, _⟩, 0, ⟨_, _, _, _⟩⟩ (St.perm (St.perm (St.perm (St.perm hs39 (L' := L33 ++ _) (perm_front (A := [_]) (perm_front (A := L30) (perm_front (A := L31) (perm_front (A := L32) (List.Perm.refl _)))))) (L' := L32 ++ _) (perm_front (A := L33) (perm_front (A := [_]) (perm_front (A := L30) (perm_front (A := L31) (List.Perm.refl _)))))) (L' := L31 ++ _) (perm_front (A := L32) (perm_front (A := L33) (perm_front (A := [_]) (perm_front (A := L30) (List.Perm.refl _)))))) (L' := L30 ++ _) (perm_front (A := L31) (perm_front (A := L32) (perm_front (A := L33) (perm_front (A := [_]) (List.Perm.refl _)))))) ho34 ho35 ho36 ho37
   have hs43 := (St.perm hs40 (L' := [_] ++ _) (perm_front (A := L41) (List.Perm.refl _)))
   refine ⟨⟨s.W, s.H, ⟨s.Main.W, s.Main.H, SlD.of ho34⟩, ⟨s.Alt.W, s.Alt.H, SlD.of ho35⟩, s.OnAlt, s.X, (s.Y + (1)), false, ⟨s.A.Fg, s.A.Bg, s.A.Bold, s.A.Under, s.A.Turn⟩, s.Top, s.Bot, s.NoWrap, s.Hide, s.SaveX, s.SaveY, ⟨s.SaveA.Fg, s.SaveA.Bg, s.SaveA.Bold, s.SaveA.Under, s.SaveA.Turn⟩, SlD.of ho36, s.Limit, SlD.ofN ho37⟩, _, rfl, St.keepP (L1 := L41) (St.perm (St.perm hs43 (L' := L41 ++ _) (perm_front (A := [_]) (List.Perm.refl _))) (L' := [_] ++ _) (perm_front (A := L41) (List.Perm.refl _))), (by exact ho42), ?_⟩
   · unfold downD; first | (rw [if_pos e1, ← hd3]; rfl) | (rw [if_neg e1, if_pos e2]; rfl) | (rw [if_neg e1, if_neg e2]; rfl)
  ·have qh27 := h27
   try simp only [bf, within_iff, within_not] at qh27
   have e2 : ¬ s.dat.Y < s.dat.H - 1 := by show ¬ s.Y < s.H - 1; have h9 := h27; simpa using h9
   refine WC.skip ?_
   refine hK2 _ _ ?_
   refine WC.region ?_
   refine WL.run tbk 1 hs26 [] rfl trivial ?_
   refine WL.val rfl rfl rfl (Run.nilCheck rfl rfl) ?_
   refine WL.run tbk 1 hs26 [] rfl trivial ?_
   refine WL.st tbk hs26 0 rfl rfl (fun _ hs44 => ?_)
   refine WL.nil ?_
   refine retK0 rfl ?_
   obtain ⟨L45, L46, L47, L48, hs53, ho49, ho50, ho51, ho52⟩ := ownScrR.open_ (St.perm hs44 (L' := L_s ++ _) (perm_front (A := [_]) (List.Perm.refl _))) o_s
   have hs54 := (St.perm hs53 (L' := [_] ++ _) (perm_front (A := L45) (perm_front (A := L46) (perm_front (A := L47) (perm_front (A := L48) (List.Perm.refl _))))))
   obtain ⟨L56, hs55, ho57⟩ := ownScrR.fold ⟨0, 0, ⟨0, 0, ⟨_, _, _, _⟩⟩, ⟨0, 0, ⟨_, _, _, _⟩⟩, false, 0, 0, false, ⟨0, 0, false, false, false⟩, 0, 0, false, false, 0, 0, ⟨0, 0, false, false, false⟩, ⟨_, _, _, _⟩, 0, ⟨_, _, _, _⟩⟩ (St.perm (St.perm (St.perm (St.perm hs54 (L' := L48 ++ _) (perm_front (A := [_]) (perm_front (A := L45) (perm_front (A := L46) (perm_front (A := L47) (List.Perm.refl _)))))) (L' := L47 ++ _) (perm_front (A := L48) (perm_front (A := [_]) (perm_front (A := L45) (perm_front (A := L46) (List.Perm.refl _)))))) (L' := L46 ++ _) (perm_front (A := L47) (perm_front (A := L48) (perm_front (A := [_]) (perm_front (A := L45) (List.Perm.refl _)))))) (L' := L45 ++ _) (perm_front (A := L46) (perm_front (A := L47) (perm_front (A := L48) (perm_front (A := [_]) (List.Perm.refl _)))))) ho49 ho50 ho51 ho52
   have hs58 := (St.perm hs55 (L' := [_] ++ _) (perm_front (A := L56) (List.Perm.refl _)))
   refine ⟨⟨s.W, s.H, ⟨s.Main.W, s.Main.H, SlD.of ho49⟩, ⟨s.Alt.W, s.Alt.H, SlD.of ho50⟩, s.OnAlt, s.X, s.Y, false, ⟨s.A.Fg, s.A.Bg, s.A.Bold, s.A.Under, s.A.Turn⟩, s.Top, s.Bot, s.NoWrap, s.Hide, s.SaveX, s.SaveY, ⟨s.SaveA.Fg, s.SaveA.Bg, s.SaveA.Bold, s.SaveA.Under, s.SaveA.Turn⟩, SlD.of ho51, s.Limit, SlD.ofN ho52⟩, _, rfl, St.keepP (L1 := L56) (St.perm (St.perm hs58 (L' := L56 ++ _) (perm_front (A := [_]) (List.Perm.refl _))) (L' := [_] ++ _) (perm_front (A := L56) (List.Perm.refl _))), (by exact ho57), ?_⟩
   · unfold downD; first | (rw [if_pos e1, ← hd3]; rfl) | (rw [if_neg e1, if_pos e2]; rfl) | (rw [if_neg e1, if_neg e2]; rfl)
theorem c_impl_Scr_up (b_s : Nat) (s : ScrR) (L_s : Hp) (w : World) (hb_s : w.heap[b_s]? = some (Obj.cells (List.toArray [i64 s.W, i64 s.H, i64 s.Main.W, i64 s.Main.H, .slice s.Main.Cells.A s.Main.Cells.n s.Main.Cells.c, i64 s.Alt.W, i64 s.Alt.H, .slice s.Alt.Cells.A s.Alt.Cells.n s.Alt.Cells.c, .bool s.OnAlt, i64 s.X, i64 s.Y, .bool s.Wrap, i64 s.A.Fg, i64 s.A.Bg, .bool s.A.Bold, .bool s.A.Under, .bool s.A.Turn, i64 s.Top, i64 s.Bot, .bool s.NoWrap, .bool s.Hide, i64 s.SaveX, i64 s.SaveY, i64 s.SaveA.Fg, i64 s.SaveA.Bg, .bool s.SaveA.Bold, .bool s.SaveA.Under, .bool s.SaveA.Turn, .slice s.Tabs.A s.Tabs.n s.Tabs.c, i64 s.Limit, .slice s.Back.A s.Back.n s.Back.c]) 33 (0, 0))) (o_s : ownScrR s L_s) (h_s : ∀ p, p ∈ L_s → w.heap[p.1]? = some p.2) (hd_ : (b_s :: L_s.map (·.1)).Nodup) (hf : ScrFine s.dat) (hsm : smScr 1048576 s.dat) :
    Calls Tryz.prog 152 #[.pointer (some ⟨b_s, 0, none⟩)] w fun e w' => ∃ r L1, e = .returned (.tuple #[]) ∧ St w (b_s :: L_s.map (·.1)) ([(b_s, Obj.cells (List.toArray [i64 r.W, i64 r.H, i64 r.Main.W, i64 r.Main.H, .slice r.Main.Cells.A r.Main.Cells.n r.Main.Cells.c, i64 r.Alt.W, i64 r.Alt.H, .slice r.Alt.Cells.A r.Alt.Cells.n r.Alt.Cells.c, .bool r.OnAlt, i64 r.X, i64 r.Y, .bool r.Wrap, i64 r.A.Fg, i64 r.A.Bg, .bool r.A.Bold, .bool r.A.Under, .bool r.A.Turn, i64 r.Top, i64 r.Bot, .bool r.NoWrap, .bool r.Hide, i64 r.SaveX, i64 r.SaveY, i64 r.SaveA.Fg, i64 r.SaveA.Bg, .bool r.SaveA.Bold, .bool r.SaveA.Under, .bool r.SaveA.Turn, .slice r.Tabs.A r.Tabs.n r.Tabs.c, i64 r.Limit, .slice r.Back.A r.Back.n r.Back.c]) 33 (0, 0))] ++ L1) w' ∧ ownScrR r L1 ∧ r.dat = upD s.dat := by
 have hsmB : smScr 549755813888 s.dat := by first | assumption | exact smScr_mono hsm (by decide)
 have hok9 := hf.ok
 obtain ⟨hb1, hb2, hb3, hb4, hb5, hb6⟩ := scrOk_bnd hok9
 obtain ⟨hm, hma⟩ := scrOk_main hok9
 simp only [ScrR.dat, GridR.dat, List.length_map] at hb1 hb2 hb3 hb4 hb5 hb6
 have hgs0 : gridOk (shownD s.dat) = true := hf.shown.1
 have hts0 : 0 ≤ s.Top ∧ s.Top ≤ s.Bot ∧ s.Bot < (shownD s.dat).H := by rw [hf.shown.2.2]; exact ⟨hf.reg.1.1, hf.reg.1.2, hf.reg.2.1⟩
 refine enter (vs := [.pointer (some ⟨b_s, 0, none⟩)]) 38 Tryz.func152 rfl Tryz.ntmps152 rfl rfl ?_
 have hs1 := St.takeP w b_s _ L_s hb_s h_s hd_
 refine WC.seq (fun K2 hK2 => ?_)
 refine WC.block ?_
 refine WC.sq hs1 mixed (by kernel_rfl) ?_
 refine WQ.run tbk 1 [] rfl trivial ?_
 refine WQ.val rfl rfl rfl (fun w_ hs_ => (Run.nilCheck rfl rfl)) ?_
 refine WQ.run tbk 3 [0] rfl ⟨rfl, trivial⟩ ?_
 refine WQ.val rfl rfl rfl (fun w_ hs_ => (Run.nilCheck rfl rfl)) ?_
 refine WQ.run tbk 4 [0] rfl ⟨rfl, trivial⟩ ?_
 refine WQ.nil (fun _ (hs3 : St _ _ _ _) => ?_)
 refine WC.cond rfl (fun h4 => ?_) (fun h4 => ?_)
 ·have qh4 := h4
  try simp only [bf, within_iff, within_not] at qh4
  have e1 : s.dat.Y = s.dat.Top := by show s.Y = s.Top; have h9 := h4; simpa using h9
  refine WC.regionH2 (fun w' => St _ _ _ w') (fun w' => St _ _ _ w') mixed (St.drew (St.drop (St.drop hs3 (List.sublist_append_right [_] _)) (List.sublist_append_right L_s _))) (St.drew hs3) (fun whs5 hs5 => ?_)
  replace hs5 : St _ _ _ _ := hs5
  refine WH.take 0 rfl (by kernel_rfl) rfl rfl rfl (St.drop (St.drop hs5 (List.sublist_append_right [_] _)) (List.sublist_append_right L_s _)) (fun w_ hs_ => (Run.move rfl rfl)) ?_
  refine WH.take 1 rfl (by kernel_rfl) rfl rfl rfl (St.drop (St.drop hs5 (List.sublist_append_right [_] _)) (List.sublist_append_right L_s _)) (fun w_ hs_ => (Run.move rfl rfl)) ?_
  refine WH.take 2 rfl (by kernel_rfl) rfl rfl rfl (St.drop (St.drop hs5 (List.sublist_append_right [_] _)) (List.sublist_append_right L_s _)) (fun w_ hs_ => (Run.nilCheck rfl rfl)) ?_
  refine WH.take 3 rfl (by kernel_rfl) rfl rfl rfl (St.drop (St.drop hs5 (List.sublist_append_right [_] _)) (List.sublist_append_right L_s _)) (fun w_ hs_ => (Run.field Tryz.runUnderlying33 rfl rfl rfl Tryz.sizeOf3 rfl)) ?_
  refine WH.take 5 rfl (by kernel_rfl) rfl rfl rfl (St.drop (St.drop hs5 (List.sublist_append_right [_] _)) (List.sublist_append_right L_s _)) (fun w_ hs_ => (Run.move rfl rfl)) ?_
  refine WH.take 6 rfl (by kernel_rfl) rfl rfl rfl (St.drop (St.drop hs5 (List.sublist_append_right [_] _)) (List.sublist_append_right L_s _)) (fun w_ hs_ => (Run.nilCheck rfl rfl)) ?_
  refine WH.take 7 rfl (by kernel_rfl) rfl rfl rfl (St.drop (St.drop hs5 (List.sublist_append_right [_] _)) (List.sublist_append_right L_s _)) (fun w_ hs_ => (Run.field Tryz.runUnderlying33 rfl rfl rfl Tryz.sizeOf3 rfl)) ?_
  refine WH.all [4, 8] (by kernel_rfl) rfl (WHs.cons (i := 4) rfl ?_ (WHs.cons (i := 8) rfl ?_ WHs.nil))
  ·refine WL.run tbk 1 hs5 [0] rfl ⟨rfl, trivial⟩ ?_
   refine WL.nil ⟨(St.drop (St.drop hs5 (List.sublist_append_right [_] _)) (List.sublist_append_right L_s _)), ?_⟩
   refine WH.all [8] (by kernel_rfl) rfl (WHs.cons (i := 8) rfl ?_ WHs.nil)
   refine WL.run tbk 1 hs5 [0] rfl ⟨rfl, trivial⟩ ?_
   refine WL.nil ⟨(St.drop (St.drop hs5 (List.sublist_append_right [_] _)) (List.sublist_append_right L_s _)), ?_⟩
   refine WH.all [9] (by kernel_rfl) rfl (WHs.cons (i := 9) rfl ?_ WHs.nil)
   have hF6 : St _ _ ((_, _) :: (L_s ++ _)) _ := (St.perm (St.perm hs5 (L' := L_s ++ _) (perm_front (A := [_]) (List.Perm.refl _))) (L' := [_] ++ _) (perm_front (A := L_s) (List.Perm.refl _)))
   refine WL.call rfl rfl rfl (Run.call Tryz.call210 rfl rfl rfl) (c_impl_Scr_roll _ s _ _ _ _ _ (St.headP hF6) o_s (St.ownP hF6) (St.nodupP hF6) ?_ ?_ ?_ ?_) ?_
   · first | (first | assumption | rfl | omega) | (first | assumption | omega)
   · first | (first | assumption | rfl | omega) | (first | assumption | omega)
   · first | (first | assumption | rfl | omega) | (first | assumption | omega)
   · first | (first | assumption | rfl | omega) | (first | assumption | omega)
   rintro _ whs7 ⟨r8, L9, rfl, hs7, ho10, hd11⟩
   replace hs7 := St.lendP hF6 hs7
   refine ⟨_, rfl, ?_⟩
   have hd3 := hd11
   refine WL.nil ⟨(St.drop (St.drop hs7 (List.sublist_append_right [_] _)) (List.sublist_append_right L9 _)), ?_⟩
   refine WH.done (by kernel_rfl) ?_
   refine hK2 _ _ ?_
   refine WC.region ?_
   refine WL.run tbk 1 hs7 [] rfl trivial ?_
   refine WL.val rfl rfl rfl (Run.nilCheck rfl rfl) ?_
   refine WL.run tbk 1 hs7 [] rfl trivial ?_
   refine WL.st tbk hs7 0 rfl rfl (fun _ hs12 => ?_)
   refine WL.nil ?_
   refine retK0 rfl ?_
   obtain ⟨L13, L14, L15, L16, hs21, ho17, ho18, ho19, ho20⟩ := ownScrR.open_ (St.perm hs12 (L' := L9 ++ _) (perm_front (A := [_]) (List.Perm.refl _))) ho10
   have hs22 := (St.perm hs21 (L' := [_] ++ _) (perm_front (A := L13) (perm_front (A := L14) (perm_front (A := L15) (perm_front (A := L16) (List.Perm.refl _))))))
   obtain ⟨L24, hs23, ho25⟩ := ownScrR.fold ⟨0, 0, ⟨0, 0, ⟨_, _, _, _⟩⟩, ⟨0, 0, ⟨_, _, _, _⟩⟩, false, 0, 0, false, ⟨0, 0, false, false, false⟩, 0, 0, false, false, 0, 0, ⟨0, 0, false, false, false⟩, ⟨_, _, _, _⟩, 0, ⟨_, _, _, _⟩⟩ (St.perm (St.perm (St.perm (St.perm hs22 (L' := L16 ++ _) (perm_front (A := [_]) (perm_front (A := L13) (perm_front (A := L14) (perm_front (A := L15) (List.Perm.refl _)))))) (L' := L15 ++ _) (perm_front (A := L16) (perm_front (A := [_]) (perm_front (A := L13) (perm_front (A := L14) (List.Perm.refl _)))))) (L' := L14 ++ _) (perm_front (A := L15) (perm_front (A := L16) (perm_front (A := [_]) (perm_front (A := L13) (List.Perm.refl _)))))) (L' := L13 ++ _) (perm_front (A := L14) (perm_front (A := L15) (perm_front (A := L16) (perm_front (A := [_]) (List.Perm.refl _)))))) ho17 ho18 ho19 ho20
   have hs26 := (St.perm hs23 (L' := [_] ++ _) (perm_front (A := L24) (List.Perm.refl _)))
   refine ⟨⟨r8.W, r8.H, ⟨r8.Main.W, r8.Main.H, SlD.of ho17⟩, ⟨r8.Alt.W, r8.Alt.H, SlD.of ho18⟩, r8.OnAlt, r8.X, r8.Y, false, ⟨r8.A.Fg, r8.A.Bg, r8.A.Bold, r8.A.Under, r8.A.Turn⟩, r8.Top, r8.Bot, r8.NoWrap, r8.Hide, r8.SaveX, r8.SaveY, ⟨r8.SaveA.Fg, r8.SaveA.Bg, r8.SaveA.Bold, r8.SaveA.Under, r8.SaveA.Turn⟩, SlD.of ho19, r8.Limit, SlD.ofN ho20⟩, _, rfl, St.keepP (L1 := L24) (St.perm (St.perm hs26 (L' := L24 ++ _) (perm_front (A := [_]) (List.Perm.refl _))) (L' := [_] ++ _) (perm_front (A := L24) (List.Perm.refl _))), (by exact ho25), ?_⟩
   · unfold upD; first | (rw [if_pos e1]; show _ = wrapD (rollD s.dat s.Top s.Bot (-1)) false; refine Eq.trans ?_ (congrArg (fun d => wrapD d false) hd3); rfl) | (rw [if_neg e1, if_pos e2]; rfl) | (rw [if_neg e1, if_neg e2]; rfl)
  ·refine WL.run tbk 1 hs5 [0] rfl ⟨rfl, trivial⟩ ?_
   refine WL.nil ⟨(St.drop (St.drop hs5 (List.sublist_append_right [_] _)) (List.sublist_append_right L_s _)), ?_⟩
   refine WH.all [4] (by kernel_rfl) rfl (WHs.cons (i := 4) rfl ?_ WHs.nil)
   refine WL.run tbk 1 hs5 [0] rfl ⟨rfl, trivial⟩ ?_
   refine WL.nil ⟨(St.drop (St.drop hs5 (List.sublist_append_right [_] _)) (List.sublist_append_right L_s _)), ?_⟩
   refine WH.all [9] (by kernel_rfl) rfl (WHs.cons (i := 9) rfl ?_ WHs.nil)
   have hF27 : St _ _ ((_, _) :: (L_s ++ _)) _ := (St.perm (St.perm hs5 (L' := L_s ++ _) (perm_front (A := [_]) (List.Perm.refl _))) (L' := [_] ++ _) (perm_front (A := L_s) (List.Perm.refl _)))
   refine WL.call rfl rfl rfl (Run.call Tryz.call210 rfl rfl rfl) (c_impl_Scr_roll _ s _ _ _ _ _ (St.headP hF27) o_s (St.ownP hF27) (St.nodupP hF27) ?_ ?_ ?_ ?_) ?_
   · first | (first | assumption | rfl | omega) | (first | assumption | omega)
   · first | (first | assumption | rfl | omega) | (first | assumption | omega)
   · first | (first | assumption | rfl | omega) | (first | assumption | omega)
   · first | (first | assumption | rfl | omega) | (first | assumption | omega)
   rintro _ whs28 ⟨r29, L30, rfl, hs28, ho31, hd32⟩
   replace hs28 := St.lendP hF27 hs28
   refine ⟨_, rfl, ?_⟩
   have hd3 := hd32
   refine WL.nil ⟨(St.drop (St.drop hs28 (List.sublist_append_right [_] _)) (List.sublist_append_right L30 _)), ?_⟩
   refine WH.done (by kernel_rfl) ?_
   refine hK2 _ _ ?_
   refine WC.region ?_
   refine WL.run tbk 1 hs28 [] rfl trivial ?_
   refine WL.val rfl rfl rfl (Run.nilCheck rfl rfl) ?_
   refine WL.run tbk 1 hs28 [] rfl trivial ?_
   refine WL.st tbk hs28 0 rfl rfl (fun _ hs33 => ?_)
   refine WL.nil ?_
   refine retK0 rfl ?_
   obtain ⟨L34, L35, L36, L37, hs42, ho38, ho39, ho40, ho41⟩ := ownScrR.open_ (St.perm hs33 (L' := L30 ++ _) (perm_front (A := [_]) (List.Perm.refl _))) ho31
   have hs43 := (St.perm hs42 (L' := [_] ++ _) (perm_front (A := L34) (perm_front (A := L35) (perm_front (A := L36) (perm_front (A := L37) (List.Perm.refl _))))))
   obtain ⟨L45, hs44, ho46⟩ := ownScrR.fold ⟨0, 0, ⟨0, 0, ⟨_, _, _, _⟩⟩, ⟨0, 0, ⟨_, _, _, _⟩⟩, false, 0, 0, false, ⟨0, 0, false, false, false⟩, 0, 0, false, false, 0, 0, ⟨0, 0, false, false, false⟩, ⟨_, _, _, _⟩, 0, ⟨_, _, _, _⟩⟩ (St.perm (St.perm (St.perm (St.perm hs43 (L' := L37 ++ _) (perm_front (A := [_]) (perm_front (A := L34) (perm_front (A := L35) (perm_front (A := L36) (List.Perm.refl _)))))) (L' := L36 ++ _) (perm_front (A := L37) (perm_front (A := [_]) (perm_front (A := L34) (perm_front (A := L35) (List.Perm.refl _)))))) (L' := L35 ++ _) (perm_front (A := L36) (perm_front (A := L37) (perm_front (A := [_]) (perm_front (A := L34) (List.Perm.refl _)))))) (L' := L34 ++ _) (perm_front (A := L35) (perm_front (A := L36) (perm_front (A := L37) (perm_front (A := [_]) (List.Perm.refl _)))))) ho38 ho39 ho40 ho41
   have hs47 := (St.perm hs44 (L' := [_] ++ _) (perm_front (A := L45) (List.Perm.refl _)))
   refine ⟨⟨r29.W, r29.H, ⟨r29.Main.W, r29.Main.H, SlD.of ho38⟩, ⟨r29.Alt.W, r29.Alt.H, SlD.of ho39⟩, r29.OnAlt, r29.X, r29.Y, false, ⟨r29.A.Fg, r29.A.Bg, r29.A.Bold, r29.A.Under, r29.A.Turn⟩, r29.Top, r29.Bot, r29.NoWrap, r29.Hide, r29.SaveX, r29.SaveY, ⟨r29.SaveA.Fg, r29.SaveA.Bg, r29.SaveA.Bold, r29.SaveA.Under, r29.SaveA.Turn⟩, SlD.of ho40, r29.Limit, SlD.ofN ho41⟩, _, rfl, St.keepP (L1 := L45) (St.perm (St.perm hs47 (L' := L45 ++ _) (perm_front (A := [_]) (List.Perm.refl _))) (L' := [_] ++ _) (perm_front (A := L45) (List.Perm.refl _))), (by exact ho46), ?_⟩
   · unfold upD; first | (rw [if_pos e1]; show _ = wrapD (rollD s.dat s.Top s.Bot (-1)) false; refine Eq.trans ?_ (congrArg (fun d => wrapD d false) hd3); rfl) | (rw [if_neg e1, if_pos e2]; rfl) | (rw [if_neg e1, if_neg e2]; rfl)
 ·have qh4 := h4
  try simp only [bf, within_iff, within_not] at qh4
  have e1 : ¬ s.dat.Y = s.dat.Top := by show ¬ s.Y = s.Top; have h9 := h4; simpa using h9
  refine WC.sr ?_
  refine WL.run tbk 1 hs3 [] rfl trivial ?_
  refine WL.val rfl rfl rfl (Run.nilCheck rfl rfl) ?_
  refine WL.run tbk 4 hs3 [0] rfl ⟨rfl, trivial⟩ ?_
  refine WL.nil ?_
  refine WC.cond rfl (fun h48 => ?_) (fun h48 => ?_)
  ·have qh48 := h48
   try simp only [bf, within_iff, within_not] at qh48
   have e2 : s.dat.Y > 0 := by show s.Y > 0; have h9 := h48; simpa using h9
   refine WC.region ?_
   refine WL.run tbk 1 hs3 [] rfl trivial ?_
   refine WL.val rfl rfl rfl (Run.nilCheck rfl rfl) ?_
   refine WL.run tbk 3 hs3 [0] rfl ⟨by omega, rfl, trivial⟩ ?_
   refine WL.val rfl rfl rfl (Run.nilCheck rfl rfl) ?_
   refine WL.run tbk 1 hs3 [] rfl trivial ?_
   refine WL.st tbk hs3 0 rfl rfl (fun _ hs49 => ?_)
   refine WL.nil ?_
   refine hK2 _ _ ?_
   refine WC.region ?_
   refine WL.run tbk 1 hs49 [] rfl trivial ?_
   refine WL.val rfl rfl rfl (Run.nilCheck rfl rfl) ?_
   refine WL.run tbk 1 hs49 [] rfl trivial ?_
   refine WL.st tbk hs49 0 rfl rfl (fun _ hs50 => ?_)
   refine WL.nil ?_
   refine retK0 rfl ?_
   obtain ⟨L51, L52, L53, L54, hs59, ho55, ho56, ho57, ho58⟩ := ownScrR.open_ (St.perm hs50 (L' := L_s ++ _) (perm_front (A := [_]) (List.Perm.refl _))) o_s
   have hs60 := (St.perm hs59 (L' := [_] ++ _) (perm_front (A := L51) (perm_front (A := L52) (perm_front (A := L53) (perm_front (A := L54) (List.Perm.refl _))))))
   obtain ⟨L62, hs61, ho63⟩ := ownScrR.fold ⟨0, 0, ⟨0, 0, ⟨_, _, _, _⟩⟩, ⟨0, 0, ⟨_, _, _, _⟩⟩, false, 0, 0, false, ⟨0, 0, false, false, false⟩, 0, 0, false, false, 0, 0, ⟨0, 0, false, false, false⟩, ⟨_, _, _, _⟩, 0, ⟨_, _, _, _⟩⟩ (St.perm (St.perm (St.perm (St.perm hs60 (L' := L54 ++ _) (perm_front (A := [_]) (perm_front (A := L51) (perm_front (A := L52) (perm_front (A := L53) (List.Perm.refl _)))))) (L' := L53 ++ _) (perm_front (A := L54) (perm_front (A := [_]) (perm_front (A := L51) (perm_front (A := L52) (List.Perm.refl _)))))) (L' := L52 ++ _) (perm_front (A := L53) (perm_front (A := L54) (perm_front (A := [_]) (perm_front (A := L51) (List.Perm.refl _)))))) (L' := L51 ++ _) (perm_front (A := L52) (perm_front (A := L53) (perm_front (A := L54) (perm_front (A := [_]) (List.Perm.refl _)))))) ho55 ho56 ho57 ho58
   have hs64 := (St.perm hs61 (L' := [_] ++ _) (perm_front (A := L62) (List.Perm.refl _)))
   refine ⟨⟨s.W, s.H, ⟨s.Main.W, s.Main.H, SlD.of ho55⟩, ⟨s.Alt.W, s.Alt.H, SlD.of ho56⟩, s.OnAlt, s.X, (s.Y - (1)), false, ⟨s.A.Fg, s.A.Bg, s.A.Bold, s.A.Under, s.A.Turn⟩, s.Top, s.Bot, s.NoWrap, s.Hide, s.SaveX, s.SaveY, ⟨s.SaveA.Fg, s.SaveA.Bg, s.SaveA.Bold, s.SaveA.Under, s.SaveA.Turn⟩, SlD.of ho57, s.Limit, SlD.ofN ho58⟩, _, rfl, St.keepP (L1 := L62) (St.perm (St.perm hs64 (L' := L62 ++ _) (perm_front (A := [_]) (List.Perm.refl _))) (L' := [_] ++ _) (perm_front (A := L62) (List.Perm.refl _))), (by exact ho63), ?_⟩
   · unfold upD; first | (rw [if_pos e1]; show _ = wrapD (rollD s.dat s.Top s.Bot (-1)) false; refine Eq.trans ?_ (congrArg (fun d => wrapD d false) hd3); rfl) | (rw [if_neg e1, if_pos e2]; rfl) | (rw [if_neg e1, if_neg e2]; rfl)
  ·have qh48 := h48
   try simp only [bf, within_iff, within_not] at qh48
   have e2 : ¬ s.dat.Y > 0 := by show ¬ s.Y > 0; have h9 := h48; simpa using h9
   refine WC.skip ?_
   refine hK2 _ _ ?_
   refine WC.region ?_
   refine WL.run tbk 1 hs3 [] rfl trivial ?_
   refine WL.val rfl rfl rfl (Run.nilCheck rfl rfl) ?_
   refine WL.run tbk 1 hs3 [] rfl trivial ?_
   refine WL.st tbk hs3 0 rfl rfl (fun _ hs65 => ?_)
   refine WL.nil ?_
   refine retK0 rfl ?_
   obtain ⟨L66, L67, L68, L69, hs74, ho70, ho71, ho72, ho73⟩ := ownScrR.open_ (St.perm hs65 (L' := L_s ++ _) (perm_front (A := [_]) (List.Perm.refl _))) o_s
   have hs75 := (St.perm hs74 (L' := [_] ++ _) (perm_front (A := L66) (perm_front (A := L67) (perm_front (A := L68) (perm_front (A := L69) (List.Perm.refl _))))))
   obtain ⟨L77, hs76, ho78⟩ := ownScrR.fold ⟨0, 0, ⟨0, 0, ⟨_, _, _, _⟩⟩, ⟨0, 0, ⟨_, _, _, _⟩⟩, false, 0, 0, false, ⟨0, 0, false, false, false⟩, 0, 0, false, false, 0, 0, ⟨0, 0, false, false, false⟩, ⟨_, _, _, _⟩, 0, ⟨_, _, _, _⟩⟩ (St.perm (St.perm (St.perm (St.perm hs75 (L' := L69 ++ _) (perm_front (A := [_]) (perm_front (A := L66) (perm_front (A := L67) (perm_front (A := L68) (List.Perm.refl _)))))) (L' := L68 ++ _) (perm_front (A := L69) (perm_front (A := [_]) (perm_front (A := L66) (perm_front (A := L67) (List.Perm.refl _)))))) (L' := L67 ++ _) (perm_front (A := L68) (perm_front (A := L69) (perm_front (A := [_]) (perm_front (A := L66) (List.Perm.refl _)))))) (L' := L66 ++ _) (perm_front (A := L67) (perm_front (A := L68) (perm_front (A := L69) (perm_front (A := [_]) (List.Perm.refl _)))))) ho70 ho71 ho72 ho73
   have hs79 := (St.perm hs76 (L' := [_] ++ _) (perm_front (A := L77) (List.Perm.refl _)))
   refine ⟨⟨s.W, s.H, ⟨s.Main.W, s.Main.H, SlD.of ho70⟩, ⟨s.Alt.W, s.Alt.H, SlD.of ho71⟩, s.OnAlt, s.X, s.Y, false, ⟨s.A.Fg, s.A.Bg, s.A.Bold, s.A.Under, s.A.Turn⟩, s.Top, s.Bot, s.NoWrap, s.Hide, s.SaveX, s.SaveY, ⟨s.SaveA.Fg, s.SaveA.Bg, s.SaveA.Bold, s.SaveA.Under, s.SaveA.Turn⟩, SlD.of ho72, s.Limit, SlD.ofN ho73⟩, _, rfl, St.keepP (L1 := L77) (St.perm (St.perm hs79 (L' := L77 ++ _) (perm_front (A := [_]) (List.Perm.refl _))) (L' := [_] ++ _) (perm_front (A := L77) (List.Perm.refl _))), (by exact ho78), ?_⟩
   · unfold upD; first | (rw [if_pos e1]; show _ = wrapD (rollD s.dat s.Top s.Bot (-1)) false; refine Eq.trans ?_ (congrArg (fun d => wrapD d false) hd3); rfl) | (rw [if_neg e1, if_pos e2]; rfl) | (rw [if_neg e1, if_neg e2]; rfl)
theorem c_impl_Scr_save (b_s : Nat) (s : ScrR) (L_s : Hp) (w : World) (hb_s : w.heap[b_s]? = some (Obj.cells (List.toArray [i64 s.W, i64 s.H, i64 s.Main.W, i64 s.Main.H, .slice s.Main.Cells.A s.Main.Cells.n s.Main.Cells.c, i64 s.Alt.W, i64 s.Alt.H, .slice s.Alt.Cells.A s.Alt.Cells.n s.Alt.Cells.c, .bool s.OnAlt, i64 s.X, i64 s.Y, .bool s.Wrap, i64 s.A.Fg, i64 s.A.Bg, .bool s.A.Bold, .bool s.A.Under, .bool s.A.Turn, i64 s.Top, i64 s.Bot, .bool s.NoWrap, .bool s.Hide, i64 s.SaveX, i64 s.SaveY, i64 s.SaveA.Fg, i64 s.SaveA.Bg, .bool s.SaveA.Bold, .bool s.SaveA.Under, .bool s.SaveA.Turn, .slice s.Tabs.A s.Tabs.n s.Tabs.c, i64 s.Limit, .slice s.Back.A s.Back.n s.Back.c]) 33 (0, 0))) (o_s : ownScrR s L_s) (h_s : ∀ p, p ∈ L_s → w.heap[p.1]? = some p.2) (hd_ : (b_s :: L_s.map (·.1)).Nodup) (hsm : smScr 549755813888 s.dat) :
    Calls Tryz.prog 153 #[.pointer (some ⟨b_s, 0, none⟩)] w fun e w' => ∃ r L1, e = .returned (.tuple #[]) ∧ St w (b_s :: L_s.map (·.1)) ([(b_s, Obj.cells (List.toArray [i64 r.W, i64 r.H, i64 r.Main.W, i64 r.Main.H, .slice r.Main.Cells.A r.Main.Cells.n r.Main.Cells.c, i64 r.Alt.W, i64 r.Alt.H, .slice r.Alt.Cells.A r.Alt.Cells.n r.Alt.Cells.c, .bool r.OnAlt, i64 r.X, i64 r.Y, .bool r.Wrap, i64 r.A.Fg, i64 r.A.Bg, .bool r.A.Bold, .bool r.A.Under, .bool r.A.Turn, i64 r.Top, i64 r.Bot, .bool r.NoWrap, .bool r.Hide, i64 r.SaveX, i64 r.SaveY, i64 r.SaveA.Fg, i64 r.SaveA.Bg, .bool r.SaveA.Bold, .bool r.SaveA.Under, .bool r.SaveA.Turn, .slice r.Tabs.A r.Tabs.n r.Tabs.c, i64 r.Limit, .slice r.Back.A r.Back.n r.Back.c]) 33 (0, 0))] ++ L1) w' ∧ ownScrR r L1 ∧ r.dat = saveD s.dat := by
 refine enter (vs := [.pointer (some ⟨b_s, 0, none⟩)]) 23 Tryz.func153 rfl Tryz.ntmps153 rfl rfl ?_
 have hs1 := St.takeP w b_s _ L_s hb_s h_s hd_
 refine WC.regionH2 (fun w' => St _ _ _ w') (fun w' => St _ _ _ w') mixed (St.drew (St.drop hs1 (List.sublist_append_right [_] _))) (St.drew hs1) (fun whs2 hs2 => ?_)
 replace hs2 : St _ _ _ _ := hs2
 refine WH.take 0 rfl (by kernel_rfl) rfl rfl rfl (St.drop hs2 (List.sublist_append_right [_] _)) (fun w_ hs_ => (Run.move rfl rfl)) ?_
 refine WH.take 1 rfl (by kernel_rfl) rfl rfl rfl (St.drop hs2 (List.sublist_append_right [_] _)) (fun w_ hs_ => (Run.move rfl rfl)) ?_
 refine WH.take 2 rfl (by kernel_rfl) rfl rfl rfl (St.drop hs2 (List.sublist_append_right [_] _)) (fun w_ hs_ => (Run.move rfl rfl)) ?_
 refine WH.take 3 rfl (by kernel_rfl) rfl rfl rfl (St.drop hs2 (List.sublist_append_right [_] _)) (fun w_ hs_ => (Run.move rfl rfl)) ?_
 refine WH.take 4 rfl (by kernel_rfl) rfl rfl rfl (St.drop hs2 (List.sublist_append_right [_] _)) (fun w_ hs_ => (Run.nilCheck rfl rfl)) ?_
 refine WH.take 5 rfl (by kernel_rfl) rfl rfl rfl (St.drop hs2 (List.sublist_append_right [_] _)) (fun w_ hs_ => (Run.field Tryz.runUnderlying33 rfl rfl rfl Tryz.sizeOf3 rfl)) ?_
 refine WH.take 7 rfl (by kernel_rfl) rfl rfl rfl (St.drop hs2 (List.sublist_append_right [_] _)) (fun w_ hs_ => (Run.move rfl rfl)) ?_
 refine WH.take 8 rfl (by kernel_rfl) rfl rfl rfl (St.drop hs2 (List.sublist_append_right [_] _)) (fun w_ hs_ => (Run.nilCheck rfl rfl)) ?_
 refine WH.take 9 rfl (by kernel_rfl) rfl rfl rfl (St.drop hs2 (List.sublist_append_right [_] _)) (fun w_ hs_ => (Run.field Tryz.runUnderlying33 rfl rfl rfl Tryz.sizeOf3 rfl)) ?_
 refine WH.take 11 rfl (by kernel_rfl) rfl rfl rfl (St.drop hs2 (List.sublist_append_right [_] _)) (fun w_ hs_ => (Run.move rfl rfl)) ?_
 refine WH.take 12 rfl (by kernel_rfl) rfl rfl rfl (St.drop hs2 (List.sublist_append_right [_] _)) (fun w_ hs_ => (Run.nilCheck rfl rfl)) ?_
 refine WH.take 13 rfl (by kernel_rfl) rfl rfl rfl (St.drop hs2 (List.sublist_append_right [_] _)) (fun w_ hs_ => (Run.field Tryz.runUnderlying33 rfl rfl rfl Tryz.sizeOf30 rfl)) ?_
 refine WH.all [6, 10, 14] (by kernel_rfl) rfl (WHs.cons (i := 6) rfl ?_ (WHs.cons (i := 10) rfl ?_ (WHs.cons (i := 14) rfl ?_ WHs.nil)))
 ·refine WL.run tbk 1 hs2 [0] rfl ⟨rfl, trivial⟩ ?_
  refine WL.nil ⟨(St.drop hs2 (List.sublist_append_right [_] _)), ?_⟩
  refine WH.all [10, 14] (by kernel_rfl) rfl (WHs.cons (i := 10) rfl ?_ (WHs.cons (i := 14) rfl ?_ WHs.nil))
  ·refine WL.run tbk 1 hs2 [0] rfl ⟨rfl, trivial⟩ ?_
   refine WL.nil ⟨(St.drop hs2 (List.sublist_append_right [_] _)), ?_⟩
   refine WH.all [14] (by kernel_rfl) rfl (WHs.cons (i := 14) rfl ?_ WHs.nil)
   refine WL.run tbk 1 hs2 [0] rfl ⟨rfl, trivial⟩ ?_
   refine WL.nil ⟨(St.drop hs2 (List.sublist_append_right [_] _)), ?_⟩
   refine WH.take 15 rfl (by kernel_rfl) rfl rfl rfl (St.drop hs2 (List.sublist_append_right [_] _)) (fun w_ hs_ => (Run.nilCheck rfl rfl)) ?_
   refine WH.take 16 rfl (by kernel_rfl) rfl rfl rfl (St.drop hs2 (List.sublist_append_right [_] _)) (fun w_ hs_ => (Run.field Tryz.runUnderlying33 rfl rfl rfl Tryz.sizeOf3 rfl)) ?_
   refine WH.all [17] (by kernel_rfl) rfl (WHs.cons (i := 17) rfl ?_ WHs.nil)
   refine WL.st tbk hs2 0 rfl rfl (fun _ hs3 => ?_)
   refine WL.nil ⟨(St.drop hs3 (List.sublist_append_right [_] _)), ?_⟩
   refine WH.take 18 rfl (by kernel_rfl) rfl rfl rfl (St.drop hs3 (List.sublist_append_right [_] _)) (fun w_ hs_ => (Run.nilCheck rfl rfl)) ?_
   refine WH.take 19 rfl (by kernel_rfl) rfl rfl rfl (St.drop hs3 (List.sublist_append_right [_] _)) (fun w_ hs_ => (Run.field Tryz.runUnderlying33 rfl rfl rfl Tryz.sizeOf3 rfl)) ?_
   refine WH.all [20] (by kernel_rfl) rfl (WHs.cons (i := 20) rfl ?_ WHs.nil)
   refine WL.st tbk hs3 0 rfl rfl (fun _ hs4 => ?_)
   refine WL.nil ⟨(St.drop hs4 (List.sublist_append_right [_] _)), ?_⟩
   refine WH.take 21 rfl (by kernel_rfl) rfl rfl rfl (St.drop hs4 (List.sublist_append_right [_] _)) (fun w_ hs_ => (Run.nilCheck rfl rfl)) ?_
   refine WH.take 22 rfl (by kernel_rfl) rfl rfl rfl (St.drop hs4 (List.sublist_append_right [_] _)) (fun w_ hs_ => (Run.field Tryz.runUnderlying33 rfl rfl rfl Tryz.sizeOf30 rfl)) ?_
   refine WH.all [23] (by kernel_rfl) rfl (WHs.cons (i := 23) rfl ?_ WHs.nil)
   refine WL.st tbk hs4 0 rfl rfl (fun _ hs5 => ?_)
   refine WL.nil ⟨(St.drop hs5 (List.sublist_append_right [_] _)), ?_⟩
   refine WH.done (by kernel_rfl) ?_
   refine retK0 rfl ?_
   obtain ⟨L6, L7, L8, L9, hs14, ho10, ho11, ho12, ho13⟩ := ownScrR.open_ (St.perm hs5 (L' := L_s ++ _) (perm_front (A := [_]) (List.Perm.refl _))) o_s
   have hs15 := (St.perm hs14 (L' := [_] ++ _) (perm_front (A := L6) (perm_front (A := L7) (perm_front (A := L8) (perm_front (A := L9) (List.Perm.refl _))))))
   obtain ⟨L17, hs16, ho18⟩ := ownScrR.fold ⟨0, 0, ⟨0, 0, ⟨_, _, _, _⟩⟩, ⟨0, 0, ⟨_, _, _, _⟩⟩, false, 0, 0, false, ⟨0, 0, false, false, false⟩, 0, 0, false, false, 0, 0, ⟨0, 0, false, false, false⟩, ⟨_, _, _, _⟩, 0, ⟨_, _, _, _⟩⟩ (St.perm (St.perm (St.perm (St.perm hs15 (L' := L9 ++ _) (perm_front (A := [_]) (perm_front (A := L6) (perm_front (A := L7) (perm_front (A := L8) (List.Perm.refl _)))))) (L' := L8 ++ _) (perm_front (A := L9) (perm_front (A := [_]) (perm_front (A := L6) (perm_front (A := L7) (List.Perm.refl _)))))) (L' := L7 ++ _) (perm_front (A := L8) (perm_front (A := L9) (perm_front (A := [_]) (perm_front (A := L6) (List.Perm.refl _)))))) (L' := L6 ++ _) (perm_front (A := L7) (perm_front (A := L8) (perm_front (A := L9) (perm_front (A := [_]) (List.Perm.refl _)))))) ho10 ho11 ho12 ho13
   have hs19 := (St.perm hs16 (L' := [_] ++ _) (perm_front (A := L17) (List.Perm.refl _)))
   refine ⟨⟨s.W, s.H, ⟨s.Main.W, s.Main.H, SlD.of ho10⟩, ⟨s.Alt.W, s.Alt.H, SlD.of ho11⟩, s.OnAlt, s.X, s.Y, s.Wrap, ⟨s.A.Fg, s.A.Bg, s.A.Bold, s.A.Under, s.A.Turn⟩, s.Top, s.Bot, s.NoWrap, s.Hide, s.X, s.Y, ⟨s.A.Fg, s.A.Bg, s.A.Bold, s.A.Under, s.A.Turn⟩, SlD.of ho12, s.Limit, SlD.ofN ho13⟩, _, rfl, St.keepP (L1 := L17) (St.perm (St.perm hs19 (L' := L17 ++ _) (perm_front (A := [_]) (List.Perm.refl _))) (L' := [_] ++ _) (perm_front (A := L17) (List.Perm.refl _))), (by exact ho18), ?_⟩
   · rfl
  ·refine WL.run tbk 1 hs2 [0] rfl ⟨rfl, trivial⟩ ?_
   refine WL.nil ⟨(St.drop hs2 (List.sublist_append_right [_] _)), ?_⟩
   refine WH.all [10] (by kernel_rfl) rfl (WHs.cons (i := 10) rfl ?_ WHs.nil)
   refine WL.run tbk 1 hs2 [0] rfl ⟨rfl, trivial⟩ ?_
   refine WL.nil ⟨(St.drop hs2 (List.sublist_append_right [_] _)), ?_⟩
   refine WH.take 15 rfl (by kernel_rfl) rfl rfl rfl (St.drop hs2 (List.sublist_append_right [_] _)) (fun w_ hs_ => (Run.nilCheck rfl rfl)) ?_
   refine WH.take 16 rfl (by kernel_rfl) rfl rfl rfl (St.drop hs2 (List.sublist_append_right [_] _)) (fun w_ hs_ => (Run.field Tryz.runUnderlying33 rfl rfl rfl Tryz.sizeOf3 rfl)) ?_
   refine WH.all [17] (by kernel_rfl) rfl (WHs.cons (i := 17) rfl ?_ WHs.nil)
   refine WL.st tbk hs2 0 rfl rfl (fun _ hs20 => ?_)
   refine WL.nil ⟨(St.drop hs20 (List.sublist_append_right [_] _)), ?_⟩
   refine WH.take 18 rfl (by kernel_rfl) rfl rfl rfl (St.drop hs20 (List.sublist_append_right [_] _)) (fun w_ hs_ => (Run.nilCheck rfl rfl)) ?_
   refine WH.take 19 rfl (by kernel_rfl) rfl rfl rfl (St.drop hs20 (List.sublist_append_right [_] _)) (fun w_ hs_ => (Run.field Tryz.runUnderlying33 rfl rfl rfl Tryz.sizeOf3 rfl)) ?_
   refine WH.all [20] (by kernel_rfl) rfl (WHs.cons (i := 20) rfl ?_ WHs.nil)
   refine WL.st tbk hs20 0 rfl rfl (fun _ hs21 => ?_)
   refine WL.nil ⟨(St.drop hs21 (List.sublist_append_right [_] _)), ?_⟩
   refine WH.take 21 rfl (by kernel_rfl) rfl rfl rfl (St.drop hs21 (List.sublist_append_right [_] _)) (fun w_ hs_ => (Run.nilCheck rfl rfl)) ?_
   refine WH.take 22 rfl (by kernel_rfl) rfl rfl rfl (St.drop hs21 (List.sublist_append_right [_] _)) (fun w_ hs_ => (Run.field Tryz.runUnderlying33 rfl rfl rfl Tryz.sizeOf30 rfl)) ?_
   refine WH.all [23] (by kernel_rfl) rfl (WHs.cons (i := 23) rfl ?_ WHs.nil)
   refine WL.st tbk hs21 0 rfl rfl (fun _ hs22 => ?_)
   refine WL.nil ⟨(St.drop hs22 (List.sublist_append_right [_] _)), ?_⟩
   refine WH.done (by kernel_rfl) ?_
   refine retK0 rfl ?_
   obtain ⟨L23, L24, L25, L26, hs31, ho27, ho28, ho29, ho30⟩ := ownScrR.open_ (St.perm hs22 (L' := L_s ++ _) (perm_front (A := [_]) (List.Perm.refl _))) o_s
   have hs32 := (St.perm hs31 (L' := [_] ++ _) (perm_front (A := L23) (perm_front (A := L24) (perm_front (A := L25) (perm_front (A := L26) (List.Perm.refl _))))))
   obtain ⟨L34, hs33, ho35⟩ := ownScrR.fold ⟨0, 0, ⟨0, 0, ⟨_, _, _, _⟩⟩, ⟨0, 0, ⟨_, _, _, _⟩⟩, false, 0, 0, false, ⟨0, 0, false, false, false⟩, 0, 0, false, false, 0, 0, ⟨0, 0, false, false, false⟩, ⟨_, _, _, _⟩, 0, ⟨_, _, _, _⟩⟩ (St.perm (St.perm (St.perm (St.perm hs32 (L' := L26 ++ _) (perm_front (A := [_]) (perm_front (A := L23) (perm_front (A := L24) (perm_front (A := L25) (List.Perm.refl _)))))) (L' := L25 ++ _) (perm_front (A := L26) (perm_front (A := [_]) (perm_front (A := L23) (perm_front (A := L24) (List.Perm.refl _)))))) (L' := L24 ++ _) (perm_front (A := L25) (perm_front (A := L26) (perm_front (A := [_]) (perm_front (A := L23) (List.Perm.refl _)))))) (L' := L23 ++ _) (perm_front (A := L24) (perm_front (A := L25) (perm_front (A := L26) (perm_front (A := [_]) (List.Perm.refl _)))))) ho27 ho28 ho29 ho30
   have hs36 := (St.perm hs33 (L' := [_] ++ _) (perm_front (A := L34) (List.Perm.refl _)))
   refine ⟨⟨s.W, s.H, ⟨s.Main.W, s.Main.H, SlD.of ho27⟩, ⟨s.Alt.W, s.Alt.H, SlD.of ho28⟩, s.OnAlt, s.X, s.Y, s.Wrap, ⟨s.A.Fg, s.A.Bg, s.A.Bold, s.A.Under, s.A.Turn⟩, s.Top, s.Bot, s.NoWrap, s.Hide, s.X, s.Y, ⟨s.A.Fg, s.A.Bg, s.A.Bold, s.A.Under, s.A.Turn⟩, SlD.of ho29, s.Limit, SlD.ofN ho30⟩, _, rfl, St.keepP (L1 := L34) (St.perm (St.perm hs36 (L' := L34 ++ _) (perm_front (A := [_]) (List.Perm.refl _))) (L' := [_] ++ _) (perm_front (A := L34) (List.Perm.refl _))), (by exact ho35), ?_⟩
   · rfl
 ·refine WL.run tbk 1 hs2 [0] rfl ⟨rfl, trivial⟩ ?_
  refine WL.nil ⟨(St.drop hs2 (List.sublist_append_right [_] _)), ?_⟩
  refine WH.all [6, 14] (by kernel_rfl) rfl (WHs.cons (i := 6) rfl ?_ (WHs.cons (i := 14) rfl ?_ WHs.nil))
  ·refine WL.run tbk 1 hs2 [0] rfl ⟨rfl, trivial⟩ ?_
   refine WL.nil ⟨(St.drop hs2 (List.sublist_append_right [_] _)), ?_⟩
   refine WH.all [14] (by kernel_rfl) rfl (WHs.cons (i := 14) rfl ?_ WHs.nil)
   refine WL.run tbk 1 hs2 [0] rfl ⟨rfl, trivial⟩ ?_
   refine WL.nil ⟨(St.drop hs2 (List.sublist_append_right [_] _)), ?_⟩
   refine WH.take 15 rfl (by kernel_rfl) rfl rfl rfl (St.drop hs2 (List.sublist_append_right [_] _)) (fun w_ hs_ => (Run.nilCheck rfl rfl)) ?_
   refine WH.take 16 rfl (by kernel_rfl) rfl rfl rfl (St.drop hs2 (List.sublist_append_right [_] _)) (fun w_ hs_ => (Run.field Tryz.runUnderlying33 rfl rfl rfl Tryz.sizeOf3 rfl)) ?_
   refine WH.all [17] (by kernel_rfl) rfl (WHs.cons (i := 17) rfl ?_ WHs.nil)
   refine WL.st tbk hs2 0 rfl rfl (fun _ hs37 => ?_)
   refine WL.nil ⟨(St.drop hs37 (List.sublist_append_right [_] _)), ?_⟩
   refine WH.take 18 rfl (by kernel_rfl) rfl rfl rfl (St.drop hs37 (List.sublist_append_right [_] _)) (fun w_ hs_ => (Run.nilCheck rfl rfl)) ?_
   refine WH.take 19 rfl (by kernel_rfl) rfl rfl rfl (St.drop hs37 (List.sublist_append_right [_] _)) (fun w_ hs_ => (Run.field Tryz.runUnderlying33 rfl rfl rfl Tryz.sizeOf3 rfl)) ?_
   refine WH.all [20] (by kernel_rfl) rfl (WHs.cons (i := 20) rfl ?_ WHs.nil)
   refine WL.st tbk hs37 0 rfl rfl (fun _ hs38 => ?_)
   refine WL.nil ⟨(St.drop hs38 (List.sublist_append_right [_] _)), ?_⟩
   refine WH.take 21 rfl (by kernel_rfl) rfl rfl rfl (St.drop hs38 (List.sublist_append_right [_] _)) (fun w_ hs_ => (Run.nilCheck rfl rfl)) ?_
   refine WH.take 22 rfl (by kernel_rfl) rfl rfl rfl (St.drop hs38 (List.sublist_append_right [_] _)) (fun w_ hs_ => (Run.field Tryz.runUnderlying33 rfl rfl rfl Tryz.sizeOf30 rfl)) ?_
   refine WH.all [23] (by kernel_rfl) rfl (WHs.cons (i := 23) rfl ?_ WHs.nil)
   refine WL.st tbk hs38 0 rfl rfl (fun _ hs39 => ?_)
   refine WL.nil ⟨(St.drop hs39 (List.sublist_append_right [_] _)), ?_⟩
   refine WH.done (by kernel_rfl) ?_
   refine retK0 rfl ?_
   obtain ⟨L40, L41, L42, L43, hs48, ho44, ho45, ho46, ho47⟩ := ownScrR.open_ (St.perm hs39 (L' := L_s ++ _) (perm_front (A := [_]) (List.Perm.refl _))) o_s
   have hs49 := (St.perm hs48 (L' := [_] ++ _) (perm_front (A := L40) (perm_front (A := L41) (perm_front (A := L42) (perm_front (A := L43) (List.Perm.refl _))))))
   obtain ⟨L51, hs50, ho52⟩ := ownScrR.fold ⟨0, 0, ⟨0, 0, ⟨_, _, _, _⟩⟩, ⟨0, 0, ⟨_, _, _, _⟩⟩, false, 0, 0, false, ⟨0, 0, false, false, false⟩, 0, 0, false, false, 0, 0, ⟨0, 0, false, false, false⟩, ⟨_, _, _, _⟩, 0, ⟨_, _, _, _⟩⟩ (St.perm (St.perm (St.perm (St.perm hs49 (L' := L43 ++ _) (perm_front (A := [_]) (perm_front (A := L40) (perm_front (A := L41) (perm_front (A := L42) (List.Perm.refl _)))))) (L' := L42 ++ _) (perm_front (A := L43) (perm_front (A := [_]) (perm_front (A := L40) (perm_front (A := L41) (List.Perm.refl _)))))) (L' := L41 ++ _) (perm_front (A := L42) (perm_front (A := L43) (perm_front (A := [_]) (perm_front (A := L40) (List.Perm.refl _)))))) (L' := L40 ++ _) (perm_front (A := L41) (perm_front (A := L42) (perm_front (A := L43) (perm_front (A := [_]) (List.Perm.refl _)))))) ho44 ho45 ho46 ho47
   have hs53 := (St.perm hs50 (L' := [_] ++ _) (perm_front (A := L51) (List.Perm.refl _)))
   refine ⟨⟨s.W, s.H, ⟨s.Main.W, s.Main.H, SlD.of ho44⟩, ⟨s.Alt.W, s.Alt.H, SlD.of ho45⟩, s.OnAlt, s.X, s.Y, s.Wrap, ⟨s.A.Fg, s.A.Bg, s.A.Bold, s.A.Under, s.A.Turn⟩, s.Top, s.Bot, s.NoWrap, s.Hide, s.X, s.Y, ⟨s.A.Fg, s.A.Bg, s.A.Bold, s.A.Under, s.A.Turn⟩, SlD.of ho46, s.Limit, SlD.ofN ho47⟩, _, rfl, St.keepP (L1 := L51) (St.perm (St.perm hs53 (L' := L51 ++ _) (perm_front (A := [_]) (List.Perm.refl _))) (L' := [_] ++ _) (perm_front (A := L51) (List.Perm.refl _))), (by exact ho52), ?_⟩
   · rfl
  ·refine WL.run tbk 1 hs2 [0] rfl ⟨rfl, trivial⟩ ?_
   refine WL.nil ⟨(St.drop hs2 (List.sublist_append_right [_] _)), ?_⟩
   refine WH.all [6] (by kernel_rfl) rfl (WHs.cons (i := 6) rfl ?_ WHs.nil)
   refine WL.run tbk 1 hs2 [0] rfl ⟨rfl, trivial⟩ ?_
   refine WL.nil ⟨(St.drop hs2 (List.sublist_append_right [_] _)), ?_⟩
   refine WH.take 15 rfl (by kernel_rfl) rfl rfl rfl (St.drop hs2 (List.sublist_append_right [_] _)) (fun w_ hs_ => (Run.nilCheck rfl rfl)) ?_
   refine WH.take 16 rfl (by kernel_rfl) rfl rfl rfl (St.drop hs2 (List.sublist_append_right [_] _)) (fun w_ hs_ => (Run.field Tryz.runUnderlying33 rfl rfl rfl Tryz.sizeOf3 rfl)) ?_
   refine WH.all [17] (by kernel_rfl) rfl (WHs.cons (i := 17) rfl ?_ WHs.nil)
   refine WL.st tbk hs2 0 rfl rfl (fun _ hs54 => ?_)
   refine WL.nil ⟨(St.drop hs54 (List.sublist_append_right [_] _)), ?_⟩
   refine WH.take 18 rfl (by kernel_rfl) rfl rfl rfl (St.drop hs54 (List.sublist_append_right [_] _)) (fun w_ hs_ => (Run.nilCheck rfl rfl)) ?_
   refine WH.take 19 rfl (by kernel_rfl) rfl rfl rfl (St.drop hs54 (List.sublist_append_right [_] _)) (fun w_ hs_ => (Run.field Tryz.runUnderlying33 rfl rfl rfl Tryz.sizeOf3 rfl)) ?_
   refine WH.all [20] (by kernel_rfl) rfl (WHs.cons (i := 20) rfl ?_ WHs.nil)
   refine WL.st tbk hs54 0 rfl rfl (fun _ hs55 => ?_)
   refine WL.nil ⟨(St.drop hs55 (List.sublist_append_right [_] _)), ?_⟩
   refine WH.take 21 rfl (by kernel_rfl) rfl rfl rfl (St.drop hs55 (List.sublist_append_right [_] _)) (fun w_ hs_ => (Run.nilCheck rfl rfl)) ?_
   refine WH.take 22 rfl (by kernel_rfl) rfl rfl rfl (St.drop hs55 (List.sublist_append_right [_] _)) (fun w_ hs_ => (Run.field Tryz.runUnderlying33 rfl rfl rfl Tryz.sizeOf30 rfl)) ?_
   refine WH.all [23] (by kernel_rfl) rfl (WHs.cons (i := 23) rfl ?_ WHs.nil)
   refine WL.st tbk hs55 0 rfl rfl (fun _ hs56 => ?_)
   refine WL.nil ⟨(St.drop hs56 (List.sublist_append_right [_] _)), ?_⟩
   refine WH.done (by kernel_rfl) ?_
   refine retK0 rfl ?_
   obtain ⟨L57, L58, L59, L60, hs65, ho61, ho62, ho63, ho64⟩ := ownScrR.open_ (St.perm hs56 (L' := L_s ++ _) (perm_front (A := [_]) (List.Perm.refl _))) o_s
   have hs66 := (St.perm hs65 (L' := [_] ++ _) (perm_front (A := L57) (perm_front (A := L58) (perm_front (A := L59) (perm_front (A := L60) (List.Perm.refl _))))))
   obtain ⟨L68, hs67, ho69⟩ := ownScrR.fold ⟨0, 0, ⟨0, 0, ⟨_, _, _, _⟩⟩, ⟨0, 0, ⟨_, _, _, _⟩⟩, false, 0, 0, false, ⟨0, 0, false, false, false⟩, 0, 0, false, false, 0, 0, ⟨0, 0, false, false, false⟩, ⟨_, _, _, _⟩, 0, ⟨_, _, _, _⟩⟩ (St.perm (St.perm (St.perm (St.perm hs66 (L' := L60 ++ _) (perm_front (A := [_]) (perm_front (A := L57) (perm_front (A := L58) (perm_front (A := L59) (List.Perm.refl _)))))) (L' := L59 ++ _) (perm_front (A := L60) (perm_front (A := [_]) (perm_front (A := L57) (perm_front (A := L58) (List.Perm.refl _)))))) (L' := L58 ++ _) (perm_front (A := L59) (perm_front (A := L60) (perm_front (A := [_]) (perm_front (A := L57) (List.Perm.refl _)))))) (L' := L57 ++ _) (perm_front (A := L58) (perm_front (A := L59) (perm_front (A := L60) (perm_front (A := [_]) (List.Perm.refl _)))))) ho61 ho62 ho63 ho64
   have hs70 := (St.perm hs67 (L' := [_] ++ _) (perm_front (A := L68) (List.Perm.refl _)))
   refine ⟨⟨s.W, s.H, ⟨s.Main.W, s.Main.H, SlD.of ho61⟩, ⟨s.Alt.W, s.Alt.H, SlD.of ho62⟩, s.OnAlt, s.X, s.Y, s.Wrap, ⟨s.A.Fg, s.A.Bg, s.A.Bold, s.A.Under, s.A.Turn⟩, s.Top, s.Bot, s.NoWrap, s.Hide, s.X, s.Y, ⟨s.A.Fg, s.A.Bg, s.A.Bold, s.A.Under, s.A.Turn⟩, SlD.of ho63, s.Limit, SlD.ofN ho64⟩, _, rfl, St.keepP (L1 := L68) (St.perm (St.perm hs70 (L' := L68 ++ _) (perm_front (A := [_]) (List.Perm.refl _))) (L' := [_] ++ _) (perm_front (A := L68) (List.Perm.refl _))), (by exact ho69), ?_⟩
   · rfl
 ·refine WL.run tbk 1 hs2 [0] rfl ⟨rfl, trivial⟩ ?_
  refine WL.nil ⟨(St.drop hs2 (List.sublist_append_right [_] _)), ?_⟩
  refine WH.all [6, 10] (by kernel_rfl) rfl (WHs.cons (i := 6) rfl ?_ (WHs.cons (i := 10) rfl ?_ WHs.nil))
  ·refine WL.run tbk 1 hs2 [0] rfl ⟨rfl, trivial⟩ ?_
   refine WL.nil ⟨(St.drop hs2 (List.sublist_append_right [_] _)), ?_⟩
   refine WH.all [10] (by kernel_rfl) rfl (WHs.cons (i := 10) rfl ?_ WHs.nil)
   refine WL.run tbk 1 hs2 [0] rfl ⟨rfl, trivial⟩ ?_
   refine WL.nil ⟨(St.drop hs2 (List.sublist_append_right [_] _)), ?_⟩
   refine WH.take 15 rfl (by kernel_rfl) rfl rfl rfl (St.drop hs2 (List.sublist_append_right [_] _)) (fun w_ hs_ => (Run.nilCheck rfl rfl)) ?_
   refine WH.take 16 rfl (by kernel_rfl) rfl rfl rfl (St.drop hs2 (List.sublist_append_right [_] _)) (fun w_ hs_ => (Run.field Tryz.runUnderlying33 rfl rfl rfl Tryz.sizeOf3 rfl)) ?_
   refine WH.all [17] (by kernel_rfl) rfl (WHs.cons (i := 17) rfl ?_ WHs.nil)
   refine WL.st tbk hs2 0 rfl rfl (fun _ hs71 => ?_)
   refine WL.nil ⟨(St.drop hs71 (List.sublist_append_right [_] _)), ?_⟩
   refine WH.take 18 rfl (by kernel_rfl) rfl rfl rfl (St.drop hs71 (List.sublist_append_right [_] _)) (fun w_ hs_ => (Run.nilCheck rfl rfl)) ?_
   refine WH.take 19 rfl (by kernel_rfl) rfl rfl rfl (St.drop hs71 (List.sublist_append_right [_] _)) (fun w_ hs_ => (Run.field Tryz.runUnderlying33 rfl rfl rfl Tryz.sizeOf3 rfl)) ?_
   refine WH.all [20] (by kernel_rfl) rfl (WHs.cons (i := 20) rfl ?_ WHs.nil)
   refine WL.st tbk hs71 0 rfl rfl (fun _ hs72 => ?_)
   refine WL.nil ⟨(St.drop hs72 (List.sublist_append_right [_] _)), ?_⟩
   refine WH.take 21 rfl (by kernel_rfl) rfl rfl rfl (St.drop hs72 (List.sublist_append_right [_] _)) (fun w_ hs_ => (Run.nilCheck rfl rfl)) ?_
   refine WH.take 22 rfl (by kernel_rfl) rfl rfl rfl (St.drop hs72 (List.sublist_append_right [_] _)) (fun w_ hs_ => (Run.field Tryz.runUnderlying33 rfl rfl rfl Tryz.sizeOf30 rfl)) ?_
   refine WH.all [23] (by kernel_rfl) rfl (WHs.cons (i := 23) rfl ?_ WHs.nil)
   refine WL.st tbk hs72 0 rfl rfl (fun _ hs73 => ?_)
   refine WL.nil ⟨(St.drop hs73 (List.sublist_append_right [_] _)), ?_⟩
   refine WH.done (by kernel_rfl) ?_
   refine retK0 rfl ?_
   obtain ⟨L74, L75, L76, L77, hs82, ho78, ho79, ho80, ho81⟩ := ownScrR.open_ (St.perm hs73 (L' := L_s ++ _) (perm_front (A := [_]) (List.Perm.refl _))) o_s
   have hs83 := (St.perm hs82 (L' := [_] ++ _) (perm_front (A := L74) (perm_front (A := L75) (perm_front (A := L76) (perm_front (A := L77) (List.Perm.refl _))))))
   obtain ⟨L85, hs84, ho86⟩ := ownScrR.fold ⟨0, 0, ⟨0, 0, ⟨_, _, _, _⟩⟩, ⟨0, 0, ⟨_, _, _, _⟩⟩, false, 0, 0, false, ⟨0, 0, false, false, false⟩, 0, 0, false, false, 0, 0, ⟨0, 0, false, false, false⟩, ⟨_, _, _, _⟩, 0, ⟨_, _, _, _⟩⟩ (St.perm (St.perm (St.perm (St.perm hs83 (L' := L77 ++ _) (perm_front (A := [_]) (perm_front (A := L74) (perm_front (A := L75) (perm_front (A := L76) (List.Perm.refl _)))))) (L' := L76 ++ _) (perm_front (A := L77) (perm_front (A := [_]) (perm_front (A := L74) (perm_front (A := L75) (List.Perm.refl _)))))) (L' := L75 ++ _) (perm_front (A := L76) (perm_front (A := L77) (perm_front (A := [_]) (perm_front (A := L74) (List.Perm.refl _)))))) (L' := L74 ++ _) (perm_front (A := L75) (perm_front (A := L76) (perm_front (A := L77) (perm_front (A := [_]) (List.Perm.refl _)))))) ho78 ho79 ho80 ho81
   have hs87 := (St.perm hs84 (L' := [_] ++ _) (perm_front (A := L85) (List.Perm.refl _)))
   refine ⟨⟨s.W, s.H, ⟨s.Main.W, s.Main.H, SlD.of ho78⟩, ⟨s.Alt.W, s.Alt.H, SlD.of ho79⟩, s.OnAlt, s.X, s.Y, s.Wrap, ⟨s.A.Fg, s.A.Bg, s.A.Bold, s.A.Under, s.A.Turn⟩, s.Top, s.Bot, s.NoWrap, s.Hide, s.X, s.Y, ⟨s.A.Fg, s.A.Bg, s.A.Bold, s.A.Under, s.A.Turn⟩, SlD.of ho80, s.Limit, SlD.ofN ho81⟩, _, rfl, St.keepP (L1 := L85) (St.perm (St.perm hs87 (L' := L85 ++ _) (perm_front (A := [_]) (List.Perm.refl _))) (L' := [_] ++ _) (perm_front (A := L85) (List.Perm.refl _))), (by exact ho86), ?_⟩
   · rfl
  ·refine WL.run tbk 1 hs2 [0] rfl ⟨rfl, trivial⟩ ?_
   refine WL.nil ⟨(St.drop hs2 (List.sublist_append_right [_] _)), ?_⟩
   refine WH.all [6] (by kernel_rfl) rfl (WHs.cons (i := 6) rfl ?_ WHs.nil)
   refine WL.run tbk 1 hs2 [0] rfl ⟨rfl, trivial⟩ ?_
   refine WL.nil ⟨(St.drop hs2 (List.sublist_append_right [_] _)), ?_⟩
   refine WH.take 15 rfl (by kernel_rfl) rfl rfl rfl (St.drop hs2 (List.sublist_append_right [_] _)) (fun w_ hs_ => (Run.nilCheck rfl rfl)) ?_
   refine WH.take 16 rfl (by kernel_rfl) rfl rfl rfl (St.drop hs2 (List.sublist_append_right [_] _)) (fun w_ hs_ => (Run.field Tryz.runUnderlying33 rfl rfl rfl Tryz.sizeOf3 rfl)) ?_
   refine WH.all [17] (by kernel_rfl) rfl (WHs.cons (i := 17) rfl ?_ WHs.nil)
   refine WL.st tbk hs2 0 rfl rfl (fun _ hs88 => ?_)
   refine WL.nil ⟨(St.drop hs88 (List.sublist_append_right [_] _)), ?_⟩
   refine WH.take 18 rfl (by kernel_rfl) rfl rfl rfl (St.drop hs88 (List.sublist_append_right [_] _)) (fun w_ hs_ => (Run.nilCheck rfl rfl)) ?_
   refine WH.take 19 rfl (by kernel_rfl) rfl rfl rfl (St.drop hs88 (List.sublist_append_right [_] _)) (fun w_ hs_ => (Run.field Tryz.runUnderlying33 rfl rfl rfl Tryz.sizeOf3 rfl)) ?_
   refine WH.all [20] (by kernel_rfl) rfl (WHs.cons (i := 20) rfl ?_ WHs.nil)
   refine WL.st tbk hs88 0 rfl rfl (fun _ hs89 => ?_)
   refine WL.nil ⟨(St.drop hs89 (List.sublist_append_right [_] _)), ?_⟩
   refine WH.take 21 rfl (by kernel_rfl) rfl rfl rfl (St.drop hs89 (List.sublist_append_right [_] _)) (fun w_ hs_ => (Run.nilCheck rfl rfl)) ?_
   refine WH.take 22 rfl (by kernel_rfl) rfl rfl rfl (St.drop hs89 (List.sublist_append_right [_] _)) (fun w_ hs_ => (Run.field Tryz.runUnderlying33 rfl rfl rfl Tryz.sizeOf30 rfl)) ?_
   refine WH.all [23] (by kernel_rfl) rfl (WHs.cons (i := 23) rfl ?_ WHs.nil)
   refine WL.st tbk hs89 0 rfl rfl (fun _ hs90 => ?_)
   refine WL.nil ⟨(St.drop hs90 (List.sublist_append_right [_] _)), ?_⟩
   refine WH.done (by kernel_rfl) ?_
   refine retK0 rfl ?_
   obtain ⟨L91, L92, L93, L94, hs99, ho95, ho96, ho97, ho98⟩ := ownScrR.open_ (St.perm hs90 (L' := L_s ++ _) (perm_front (A := [_]) (List.Perm.refl _))) o_s
   have hs100 := (St.perm hs99 (L' := [_] ++ _) (perm_front (A := L91) (perm_front (A := L92) (perm_front (A := L93) (perm_front (A := L94) (List.Perm.refl _))))))
   obtain ⟨L102, hs101, ho103⟩ := ownScrR.fold ⟨0, 0, ⟨0, 0, ⟨_, _, _, _⟩⟩, ⟨0, 0, ⟨_, _, _, _⟩⟩, false, 0, 0, false, ⟨0, 0, false, false, false⟩, 0, 0, false, false, 0, 0, ⟨0, 0, false, false, false⟩, ⟨_, _, _, _⟩, 0, ⟨_, _, _, _⟩⟩ (St.perm (St.perm (St.perm (St.perm hs100 (L' := L94 ++ _) (perm_front (A := [_]) (perm_front (A := L91) (perm_front (A := L92) (perm_front (A := L93) (List.Perm.refl _)))))) (L' := L93 ++ _) (perm_front (A := L94) (perm_front (A := [_]) (perm_front (A := L91) (perm_front (A := L92) (List.Perm.refl _)))))) (L' := L92 ++ _) (perm_front (A := L93) (perm_front (A := L94) (perm_front (A := [_]) (perm_front (A := L91) (List.Perm.refl _)))))) (L' := L91 ++ _) (perm_front (A := L92) (perm_front (A := L93) (perm_front (A := L94) (perm_front (A := [_]) (List.Perm.refl _)))))) ho95 ho96 ho97 ho98
   have hs104 := (St.perm hs101 (L' := [_] ++ _) (perm_front (A := L102) (List.Perm.refl _)))
   refine ⟨⟨s.W, s.H, ⟨s.Main.W, s.Main.H, SlD.of ho95⟩, ⟨s.Alt.W, s.Alt.H, SlD.of ho96⟩, s.OnAlt, s.X, s.Y, s.Wrap, ⟨s.A.Fg, s.A.Bg, s.A.Bold, s.A.Under, s.A.Turn⟩, s.Top, s.Bot, s.NoWrap, s.Hide, s.X, s.Y, ⟨s.A.Fg, s.A.Bg, s.A.Bold, s.A.Under, s.A.Turn⟩, SlD.of ho97, s.Limit, SlD.ofN ho98⟩, _, rfl, St.keepP (L1 := L102) (St.perm (St.perm hs104 (L' := L102 ++ _) (perm_front (A := [_]) (List.Perm.refl _))) (L' := [_] ++ _) (perm_front (A := L102) (List.Perm.refl _))), (by exact ho103), ?_⟩
   · rfl
theorem c_impl_Scr_restore (b_s : Nat) (s : ScrR) (L_s : Hp) (w : World) (hb_s : w.heap[b_s]? = some (Obj.cells (List.toArray [i64 s.W, i64 s.H, i64 s.Main.W, i64 s.Main.H, .slice s.Main.Cells.A s.Main.Cells.n s.Main.Cells.c, i64 s.Alt.W, i64 s.Alt.H, .slice s.Alt.Cells.A s.Alt.Cells.n s.Alt.Cells.c, .bool s.OnAlt, i64 s.X, i64 s.Y, .bool s.Wrap, i64 s.A.Fg, i64 s.A.Bg, .bool s.A.Bold, .bool s.A.Under, .bool s.A.Turn, i64 s.Top, i64 s.Bot, .bool s.NoWrap, .bool s.Hide, i64 s.SaveX, i64 s.SaveY, i64 s.SaveA.Fg, i64 s.SaveA.Bg, .bool s.SaveA.Bold, .bool s.SaveA.Under, .bool s.SaveA.Turn, .slice s.Tabs.A s.Tabs.n s.Tabs.c, i64 s.Limit, .slice s.Back.A s.Back.n s.Back.c]) 33 (0, 0))) (o_s : ownScrR s L_s) (h_s : ∀ p, p ∈ L_s → w.heap[p.1]? = some p.2) (hd_ : (b_s :: L_s.map (·.1)).Nodup) (hsm : smScr 549755813888 s.dat) :
    Calls Tryz.prog 154 #[.pointer (some ⟨b_s, 0, none⟩)] w fun e w' => ∃ r L1, e = .returned (.tuple #[]) ∧ St w (b_s :: L_s.map (·.1)) ([(b_s, Obj.cells (List.toArray [i64 r.W, i64 r.H, i64 r.Main.W, i64 r.Main.H, .slice r.Main.Cells.A r.Main.Cells.n r.Main.Cells.c, i64 r.Alt.W, i64 r.Alt.H, .slice r.Alt.Cells.A r.Alt.Cells.n r.Alt.Cells.c, .bool r.OnAlt, i64 r.X, i64 r.Y, .bool r.Wrap, i64 r.A.Fg, i64 r.A.Bg, .bool r.A.Bold, .bool r.A.Under, .bool r.A.Turn, i64 r.Top, i64 r.Bot, .bool r.NoWrap, .bool r.Hide, i64 r.SaveX, i64 r.SaveY, i64 r.SaveA.Fg, i64 r.SaveA.Bg, .bool r.SaveA.Bold, .bool r.SaveA.Under, .bool r.SaveA.Turn, .slice r.Tabs.A r.Tabs.n r.Tabs.c, i64 r.Limit, .slice r.Back.A r.Back.n r.Back.c]) 33 (0, 0))] ++ L1) w' ∧ ownScrR r L1 ∧ r.dat = backD s.dat := by
 refine enter (vs := [.pointer (some ⟨b_s, 0, none⟩)]) 26 Tryz.func154 rfl Tryz.ntmps154 rfl rfl ?_
 have hs1 := St.takeP w b_s _ L_s hb_s h_s hd_
 refine WC.regionH2 (fun w' => St _ _ _ w') (fun w' => St _ _ _ w') mixed (St.drew (St.drop hs1 (List.sublist_append_right [_] _))) (St.drew hs1) (fun whs2 hs2 => ?_)
 replace hs2 : St _ _ _ _ := hs2
 refine WH.take 0 rfl (by kernel_rfl) rfl rfl rfl (St.drop hs2 (List.sublist_append_right [_] _)) (fun w_ hs_ => (Run.move rfl rfl)) ?_
 refine WH.take 1 rfl (by kernel_rfl) rfl rfl rfl (St.drop hs2 (List.sublist_append_right [_] _)) (fun w_ hs_ => (Run.move rfl rfl)) ?_
 refine WH.take 2 rfl (by kernel_rfl) rfl rfl rfl (St.drop hs2 (List.sublist_append_right [_] _)) (fun w_ hs_ => (Run.move rfl rfl)) ?_
 refine WH.take 3 rfl (by kernel_rfl) rfl rfl rfl (St.drop hs2 (List.sublist_append_right [_] _)) (fun w_ hs_ => (Run.move rfl rfl)) ?_
 refine WH.take 4 rfl (by kernel_rfl) rfl rfl rfl (St.drop hs2 (List.sublist_append_right [_] _)) (fun w_ hs_ => (Run.move rfl rfl)) ?_
 refine WH.take 5 rfl (by kernel_rfl) rfl rfl rfl (St.drop hs2 (List.sublist_append_right [_] _)) (fun w_ hs_ => (Run.nilCheck rfl rfl)) ?_
 refine WH.take 6 rfl (by kernel_rfl) rfl rfl rfl (St.drop hs2 (List.sublist_append_right [_] _)) (fun w_ hs_ => (Run.field Tryz.runUnderlying33 rfl rfl rfl Tryz.sizeOf3 rfl)) ?_
 refine WH.take 8 rfl (by kernel_rfl) rfl rfl rfl (St.drop hs2 (List.sublist_append_right [_] _)) (fun w_ hs_ => (Run.move rfl rfl)) ?_
 refine WH.take 9 rfl (by kernel_rfl) rfl rfl rfl (St.drop hs2 (List.sublist_append_right [_] _)) (fun w_ hs_ => (Run.nilCheck rfl rfl)) ?_
 refine WH.take 10 rfl (by kernel_rfl) rfl rfl rfl (St.drop hs2 (List.sublist_append_right [_] _)) (fun w_ hs_ => (Run.field Tryz.runUnderlying33 rfl rfl rfl Tryz.sizeOf3 rfl)) ?_
 refine WH.take 12 rfl (by kernel_rfl) rfl rfl rfl (St.drop hs2 (List.sublist_append_right [_] _)) (fun w_ hs_ => (Run.move rfl rfl)) ?_
 refine WH.take 13 rfl (by kernel_rfl) rfl rfl rfl (St.drop hs2 (List.sublist_append_right [_] _)) (fun w_ hs_ => (Run.nilCheck rfl rfl)) ?_
 refine WH.take 14 rfl (by kernel_rfl) rfl rfl rfl (St.drop hs2 (List.sublist_append_right [_] _)) (fun w_ hs_ => (Run.field Tryz.runUnderlying33 rfl rfl rfl Tryz.sizeOf30 rfl)) ?_
 refine WH.all [7, 11, 15] (by kernel_rfl) rfl (WHs.cons (i := 7) rfl ?_ (WHs.cons (i := 11) rfl ?_ (WHs.cons (i := 15) rfl ?_ WHs.nil)))
 ·refine WL.run tbk 1 hs2 [0] rfl ⟨rfl, trivial⟩ ?_
  refine WL.nil ⟨(St.drop hs2 (List.sublist_append_right [_] _)), ?_⟩
  refine WH.all [11, 15] (by kernel_rfl) rfl (WHs.cons (i := 11) rfl ?_ (WHs.cons (i := 15) rfl ?_ WHs.nil))
  ·refine WL.run tbk 1 hs2 [0] rfl ⟨rfl, trivial⟩ ?_
   refine WL.nil ⟨(St.drop hs2 (List.sublist_append_right [_] _)), ?_⟩
   refine WH.all [15] (by kernel_rfl) rfl (WHs.cons (i := 15) rfl ?_ WHs.nil)
   refine WL.run tbk 1 hs2 [0] rfl ⟨rfl, trivial⟩ ?_
   refine WL.nil ⟨(St.drop hs2 (List.sublist_append_right [_] _)), ?_⟩
   refine WH.take 16 rfl (by kernel_rfl) rfl rfl rfl (St.drop hs2 (List.sublist_append_right [_] _)) (fun w_ hs_ => (Run.nilCheck rfl rfl)) ?_
   refine WH.take 17 rfl (by kernel_rfl) rfl rfl rfl (St.drop hs2 (List.sublist_append_right [_] _)) (fun w_ hs_ => (Run.field Tryz.runUnderlying33 rfl rfl rfl Tryz.sizeOf3 rfl)) ?_
   refine WH.all [18] (by kernel_rfl) rfl (WHs.cons (i := 18) rfl ?_ WHs.nil)
   refine WL.st tbk hs2 0 rfl rfl (fun _ hs3 => ?_)
   refine WL.nil ⟨(St.drop hs3 (List.sublist_append_right [_] _)), ?_⟩
   refine WH.take 19 rfl (by kernel_rfl) rfl rfl rfl (St.drop hs3 (List.sublist_append_right [_] _)) (fun w_ hs_ => (Run.nilCheck rfl rfl)) ?_
   refine WH.take 20 rfl (by kernel_rfl) rfl rfl rfl (St.drop hs3 (List.sublist_append_right [_] _)) (fun w_ hs_ => (Run.field Tryz.runUnderlying33 rfl rfl rfl Tryz.sizeOf3 rfl)) ?_
   refine WH.all [21] (by kernel_rfl) rfl (WHs.cons (i := 21) rfl ?_ WHs.nil)
   refine WL.st tbk hs3 0 rfl rfl (fun _ hs4 => ?_)
   refine WL.nil ⟨(St.drop hs4 (List.sublist_append_right [_] _)), ?_⟩
   refine WH.take 22 rfl (by kernel_rfl) rfl rfl rfl (St.drop hs4 (List.sublist_append_right [_] _)) (fun w_ hs_ => (Run.nilCheck rfl rfl)) ?_
   refine WH.take 23 rfl (by kernel_rfl) rfl rfl rfl (St.drop hs4 (List.sublist_append_right [_] _)) (fun w_ hs_ => (Run.field Tryz.runUnderlying33 rfl rfl rfl Tryz.sizeOf30 rfl)) ?_
   refine WH.all [24] (by kernel_rfl) rfl (WHs.cons (i := 24) rfl ?_ WHs.nil)
   refine WL.st tbk hs4 0 rfl rfl (fun _ hs5 => ?_)
   refine WL.nil ⟨(St.drop hs5 (List.sublist_append_right [_] _)), ?_⟩
   refine WH.take 25 rfl (by kernel_rfl) rfl rfl rfl (St.drop hs5 (List.sublist_append_right [_] _)) (fun w_ hs_ => (Run.nilCheck rfl rfl)) ?_
   refine WH.take 26 rfl (by kernel_rfl) rfl rfl rfl (St.drop hs5 (List.sublist_append_right [_] _)) (fun w_ hs_ => (Run.field Tryz.runUnderlying33 rfl rfl rfl Tryz.sizeOf4 rfl)) ?_
   refine WH.all [27] (by kernel_rfl) rfl (WHs.cons (i := 27) rfl ?_ WHs.nil)
   refine WL.st tbk hs5 0 rfl rfl (fun _ hs6 => ?_)
   refine WL.nil ⟨(St.drop hs6 (List.sublist_append_right [_] _)), ?_⟩
   refine WH.done (by kernel_rfl) ?_
   refine retK0 rfl ?_
   obtain ⟨L7, L8, L9, L10, hs15, ho11, ho12, ho13, ho14⟩ := ownScrR.open_ (St.perm hs6 (L' := L_s ++ _) (perm_front (A := [_]) (List.Perm.refl _))) o_s
   have hs16 := (St.perm hs15 (L' := [_] ++ _) (perm_front (A := L7) (perm_front (A := L8) (perm_front (A := L9) (perm_front (A := L10) (List.Perm.refl _))))))
   obtain ⟨L18, hs17, ho19⟩ := ownScrR.fold ⟨0, 0, ⟨0, 0, ⟨_, _, _, _⟩⟩, ⟨0, 0, ⟨_, _, _, _⟩⟩, false, 0, 0, false, ⟨0, 0, false, false, false⟩, 0, 0, false, false, 0, 0, ⟨0, 0, false, false, false⟩, ⟨_, _, _, _⟩, 0, ⟨_, _, _, _⟩⟩ (St.perm (St.perm (St.perm (St.perm hs16 (L' := L10 ++ _) (perm_front (A := [_]) (perm_front (A := L7) (perm_front (A := L8) (perm_front (A := L9) (List.Perm.refl _)))))) (L' := L9 ++ _) (perm_front (A := L10) (perm_front (A := [_]) (perm_front (A := L7) (perm_front (A := L8) (List.Perm.refl _)))))) (L' := L8 ++ _) (perm_front (A := L9) (perm_front (A := L10) (perm_front (A := [_]) (perm_front (A := L7) (List.Perm.refl _)))))) (L' := L7 ++ _) (perm_front (A := L8) (perm_front (A := L9) (perm_front (A := L10) (perm_front (A := [_]) (List.Perm.refl _)))))) ho11 ho12 ho13 ho14
   have hs20 := (St.perm hs17 (L' := [_] ++ _) (perm_front (A := L18) (List.Perm.refl _)))
   refine ⟨⟨s.W, s.H, ⟨s.Main.W, s.Main.H, SlD.of ho11⟩, ⟨s.Alt.W, s.Alt.H, SlD.of ho12⟩, s.OnAlt, s.SaveX, s.SaveY, false, ⟨s.SaveA.Fg, s.SaveA.Bg, s.SaveA.Bold, s.SaveA.Under, s.SaveA.Turn⟩, s.Top, s.Bot, s.NoWrap, s.Hide, s.SaveX, s.SaveY, ⟨s.SaveA.Fg, s.SaveA.Bg, s.SaveA.Bold, s.SaveA.Under, s.SaveA.Turn⟩, SlD.of ho13, s.Limit, SlD.ofN ho14⟩, _, rfl, St.keepP (L1 := L18) (St.perm (St.perm hs20 (L' := L18 ++ _) (perm_front (A := [_]) (List.Perm.refl _))) (L' := [_] ++ _) (perm_front (A := L18) (List.Perm.refl _))), (by exact ho19), ?_⟩
   · rfl
  ·refine WL.run tbk 1 hs2 [0] rfl ⟨rfl, trivial⟩ ?_
   refine WL.nil ⟨(St.drop hs2 (List.sublist_append_right [_] _)), ?_⟩
   refine WH.all [11] (by kernel_rfl) rfl (WHs.cons (i := 11) rfl ?_ WHs.nil)
   refine WL.run tbk 1 hs2 [0] rfl ⟨rfl, trivial⟩ ?_
   refine WL.nil ⟨(St.drop hs2 (List.sublist_append_right [_] _)), ?_⟩
   refine WH.take 16 rfl (by kernel_rfl) rfl rfl rfl (St.drop hs2 (List.sublist_append_right [_] _)) (fun w_ hs_ => (Run.nilCheck rfl rfl)) ?_
   refine WH.take 17 rfl (by kernel_rfl) rfl rfl rfl (St.drop hs2 (List.sublist_append_right [_] _)) (fun w_ hs_ => (Run.field Tryz.runUnderlying33 rfl rfl rfl Tryz.sizeOf3 rfl)) ?_
   refine WH.all [18] (by kernel_rfl) rfl (WHs.cons (i := 18) rfl ?_ WHs.nil)
   refine WL.st tbk hs2 0 rfl rfl (fun _ hs21 => ?_)
   refine WL.nil ⟨(St.drop hs21 (List.sublist_append_right [_] _)), ?_⟩
   refine WH.take 19 rfl (by kernel_rfl) rfl rfl rfl (St.drop hs21 (List.sublist_append_right [_] _)) (fun w_ hs_ => (Run.nilCheck rfl rfl)) ?_
   refine WH.take 20 rfl (by kernel_rfl) rfl rfl rfl (St.drop hs21 (List.sublist_append_right [_] _)) (fun w_ hs_ => (Run.field Tryz.runUnderlying33 rfl rfl rfl Tryz.sizeOf3 rfl)) ?_
   refine WH.all [21] (by kernel_rfl) rfl (WHs.cons (i := 21) rfl ?_ WHs.nil)
   refine WL.st tbk hs21 0 rfl rfl (fun _ hs22 => ?_)
   refine WL.nil ⟨(St.drop hs22 (List.sublist_append_right [_] _)), ?_⟩
   refine WH.take 22 rfl (by kernel_rfl) rfl rfl rfl (St.drop hs22 (List.sublist_append_right [_] _)) (fun w_ hs_ => (Run.nilCheck rfl rfl)) ?_
   refine WH.take 23 rfl (by kernel_rfl) rfl rfl rfl (St.drop hs22 (List.sublist_append_right [_] _)) (fun w_ hs_ => (Run.field Tryz.runUnderlying33 rfl rfl rfl Tryz.sizeOf30 rfl)) ?_
   refine WH.all [24] (by kernel_rfl) rfl (WHs.cons (i := 24) rfl ?_ WHs.nil)
   refine WL.st tbk hs22 0 rfl rfl (fun _ hs23 => ?_)
   refine WL.nil ⟨(St.drop hs23 (List.sublist_append_right [_] _)), ?_⟩
   refine WH.take 25 rfl (by kernel_rfl) rfl rfl rfl (St.drop hs23 (List.sublist_append_right [_] _)) (fun w_ hs_ => (Run.nilCheck rfl rfl)) ?_
   refine WH.take 26 rfl (by kernel_rfl) rfl rfl rfl (St.drop hs23 (List.sublist_append_right [_] _)) (fun w_ hs_ => (Run.field Tryz.runUnderlying33 rfl rfl rfl Tryz.sizeOf4 rfl)) ?_
   refine WH.all [27] (by kernel_rfl) rfl (WHs.cons (i := 27) rfl ?_ WHs.nil)
   refine WL.st tbk hs23 0 rfl rfl (fun _ hs24 => ?_)
   refine WL.nil ⟨(St.drop hs24 (List.sublist_append_right [_] _)), ?_⟩
   refine WH.done (by kernel_rfl) ?_
   refine retK0 rfl ?_
   obtain ⟨L25, L26, L27, L28, hs33, ho29, ho30, ho31, ho32⟩ := ownScrR.open_ (St.perm hs24 (L' := L_s ++ _) (perm_front (A := [_]) (List.Perm.refl _))) o_s
   have hs34 := (St.perm hs33 (L' := [_] ++ _) (perm_front (A := L25) (perm_front (A := L26) (perm_front (A := L27) (perm_front (A := L28) (List.Perm.refl _))))))
   obtain ⟨L36, hs35, ho37⟩ := ownScrR.fold ⟨0, 0, ⟨0, 0, ⟨_, _, _, _⟩⟩, ⟨0, 0, ⟨_, _, _, _⟩⟩, false, 0, 0, false, ⟨0, 0, false, false, false⟩, 0, 0, false, false, 0, 0, ⟨0, 0, false, false, false⟩, ⟨_, _, _, _⟩, 0, ⟨_, _, _, _⟩⟩ (St.perm (St.perm (St.perm (St.perm hs34 (L' := L28 ++ _) (perm_front (A := [_]) (perm_front (A := L25) (perm_front (A := L26) (perm_front (A := L27) (List.Perm.refl _)))))) (L' := L27 ++ _) (perm_front (A := L28) (perm_front (A := [_]) (perm_front (A := L25) (perm_front (A := L26) (List.Perm.refl _)))))) (L' := L26 ++ _) (perm_front (A := L27) (perm_front (A := L28) (perm_front (A := [_]) (perm_front (A := L25) (List.Perm.refl _)))))) (L' := L25 ++ _) (perm_front (A := L26) (perm_front (A := L27) (perm_front (A := L28) (perm_front (A := [_]) (List.Perm.refl _)))))) ho29 ho30 ho31 ho32
   have hs38 := (St.perm hs35 (L' := [_] ++ _) (perm_front (A := L36) (List.Perm.refl _)))
   refine ⟨⟨s.W, s.H, ⟨s.Main.W, s.Main.H, SlD.of ho29⟩, ⟨s.Alt.W, s.Alt.H, SlD.of ho30⟩, s.OnAlt, s.SaveX, s.SaveY, false, ⟨s.SaveA.Fg, s.SaveA.Bg, s.SaveA.Bold, s.SaveA.Under, s.SaveA.Turn⟩, s.Top, s.Bot, s.NoWrap, s.Hide, s.SaveX, s.SaveY, ⟨s.SaveA.Fg, s.SaveA.Bg, s.SaveA.Bold, s.SaveA.Under, s.SaveA.Turn⟩, SlD.of ho31, s.Limit, SlD.ofN ho32⟩, _, rfl, St.keepP (L1 := L36) (St.perm (St.perm hs38 (L' := L36 ++ _) (perm_front (A := [_]) (List.Perm.refl _))) (L' := [_] ++ _) (perm_front (A := L36) (List.Perm.refl _))), (by exact ho37), ?_⟩
   · rfl
 ·refine WL.run tbk 1 hs2 [0] rfl ⟨rfl, trivial⟩ ?_
  refine WL.nil ⟨(St.drop hs2 (List.sublist_append_right [_] _)), ?_⟩
  refine WH.all [7, 15] (by kernel_rfl) rfl (WHs.cons (i := 7) rfl ?_ (WHs.cons (i := 15) rfl ?_ WHs.nil))
  ·refine WL.run tbk 1 hs2 [0] rfl ⟨rfl, trivial⟩ ?_
   refine WL.nil ⟨(St.drop hs2 (List.sublist_append_right [_] _)), ?_⟩
   refine WH.all [15] (by kernel_rfl) rfl (WHs.cons (i := 15) rfl ?_ WHs.nil)
   refine WL.run tbk 1 hs2 [0] rfl ⟨rfl, trivial⟩ ?_
   refine WL.nil ⟨(St.drop hs2 (List.sublist_append_right [_] _)), ?_⟩
   refine WH.take 16 rfl (by kernel_rfl) rfl rfl rfl (St.drop hs2 (List.sublist_append_right [_] _)) (fun w_ hs_ => (Run.nilCheck rfl rfl)) ?_
   refine WH.take 17 rfl (by kernel_rfl) rfl rfl rfl (St.drop hs2 (List.sublist_append_right [_] _)) (fun w_ hs_ => (Run.field Tryz.runUnderlying33 rfl rfl rfl Tryz.sizeOf3 rfl)) ?_
   refine WH.all [18] (by kernel_rfl) rfl (WHs.cons (i := 18) rfl ?_ WHs.nil)
   refine WL.st tbk hs2 0 rfl rfl (fun _ hs39 => ?_)
   refine WL.nil ⟨(St.drop hs39 (List.sublist_append_right [_] _)), ?_⟩
   refine WH.take 19 rfl (by kernel_rfl) rfl rfl rfl (St.drop hs39 (List.sublist_append_right [_] _)) (fun w_ hs_ => (Run.nilCheck rfl rfl)) ?_
   refine WH.take 20 rfl (by kernel_rfl) rfl rfl rfl (St.drop hs39 (List.sublist_append_right [_] _)) (fun w_ hs_ => (Run.field Tryz.runUnderlying33 rfl rfl rfl Tryz.sizeOf3 rfl)) ?_
   refine WH.all [21] (by kernel_rfl) rfl (WHs.cons (i := 21) rfl ?_ WHs.nil)
   refine WL.st tbk hs39 0 rfl rfl (fun _ hs40 => ?_)
   refine WL.nil ⟨(St.drop hs40 (List.sublist_append_right [_] _)), ?_⟩
   refine WH.take 22 rfl (by kernel_rfl) rfl rfl rfl (St.drop hs40 (List.sublist_append_right [_] _)) (fun w_ hs_ => (Run.nilCheck rfl rfl)) ?_
   refine WH.take 23 rfl (by kernel_rfl) rfl rfl rfl (St.drop hs40 (List.sublist_append_right [_] _)) (fun w_ hs_ => (Run.field Tryz.runUnderlying33 rfl rfl rfl Tryz.sizeOf30 rfl)) ?_
   refine WH.all [24] (by kernel_rfl) rfl (WHs.cons (i := 24) rfl ?_ WHs.nil)
   refine WL.st tbk hs40 0 rfl rfl (fun _ hs41 => ?_)
   refine WL.nil ⟨(St.drop hs41 (List.sublist_append_right [_] _)), ?_⟩
   refine WH.take 25 rfl (by kernel_rfl) rfl rfl rfl (St.drop hs41 (List.sublist_append_right [_] _)) (fun w_ hs_ => (Run.nilCheck rfl rfl)) ?_
   refine WH.take 26 rfl (by kernel_rfl) rfl rfl rfl (St.drop hs41 (List.sublist_append_right [_] _)) (fun w_ hs_ => (Run.field Tryz.runUnderlying33 rfl rfl rfl Tryz.sizeOf4 rfl)) ?_
   refine WH.all [27] (by kernel_rfl) rfl (WHs.cons (i := 27) rfl ?_ WHs.nil)
   refine WL.st tbk hs41 0 rfl rfl (fun _ hs42 => ?_)
   refine WL.nil ⟨(St.drop hs42 (List.sublist_append_right [_] _)), ?_⟩
   refine WH.done (by kernel_rfl) ?_
   refine retK0 rfl ?_
   obtain ⟨L43, L44, L45, L46, hs51, ho47, ho48, ho49, ho50⟩ := ownScrR.open_ (St.perm hs42 (L' := L_s ++ _) (perm_front (A := [_]) (List.Perm.refl _))) o_s
   have hs52 := (St.perm hs51 (L' := [_] ++ _) (perm_front (A := L43) (perm_front (A := L44) (perm_front (A := L45) (perm_front (A := L46) (List.Perm.refl _))))))
   obtain ⟨L54, hs53, ho55⟩ := ownScrR.fold ⟨0, 0, ⟨0, 0, ⟨_, _, _, _⟩⟩, ⟨0, 0, ⟨_, _, _, _⟩⟩, false, 0, 0, false, ⟨0, 0, false, false, false⟩, 0, 0, false, false, 0, 0, ⟨0, 0, false, false, false⟩, ⟨_, _, _, _⟩, 0, ⟨_, _, _, _⟩⟩ (St.perm (St.perm (St.perm (St.perm hs52 (L' := L46 ++ _) (perm_front (A := [_]) (perm_front (A := L43) (perm_front (A := L44) (perm_front (A := L45) (List.Perm.refl _)))))) (L' := L45 ++ _) (perm_front (A := L46) (perm_front (A := [_]) (perm_front (A := L43) (perm_front (A := L44) (List.Perm.refl _)))))) (L' := L44 ++ _) (perm_front (A := L45) (perm_front (A := L46) (perm_front (A := [_]) (perm_front (A := L43) (List.Perm.refl _)))))) (L' := L43 ++ _) (perm_front (A := L44) (perm_front (A := L45) (perm_front (A := L46) (perm_front (A := [_]) (List.Perm.refl _)))))) ho47 ho48 ho49 ho50
   have hs56 := (St.perm hs53 (L' := [_] ++ _) (perm_front (A := L54) (List.Perm.refl _)))
   refine ⟨⟨s.W, s.H, ⟨s.Main.W, s.Main.H, SlD.of ho47⟩, ⟨s.Alt.W, s.Alt.H, SlD.of ho48⟩, s.OnAlt, s.SaveX, s.SaveY, false, ⟨s.SaveA.Fg, s.SaveA.Bg, s.SaveA.Bold, s.SaveA.Under, s.SaveA.Turn⟩, s.Top, s.Bot, s.NoWrap, s.Hide, s.SaveX, s.SaveY, ⟨s.SaveA.Fg, s.SaveA.Bg, s.SaveA.Bold, s.SaveA.Under, s.SaveA.Turn⟩, SlD.of ho49, s.Limit, SlD.ofN ho50⟩, _, rfl, St.keepP (L1 := L54) (St.perm (St.perm hs56 (L' := L54 ++ _) (perm_front (A := [_]) (List.Perm.refl _))) (L' := [_] ++ _) (perm_front (A := L54) (List.Perm.refl _))), (by exact ho55), ?_⟩
   · rfl
  ·refine WL.run tbk 1 hs2 [0] rfl ⟨rfl, trivial⟩ ?_
   refine WL.nil ⟨(St.drop hs2 (List.sublist_append_right [_] _)), ?_⟩
   refine WH.all [7] (by kernel_rfl) rfl (WHs.cons (i := 7) rfl ?_ WHs.nil)
   refine WL.run tbk 1 hs2 [0] rfl ⟨rfl, trivial⟩ ?_
   refine WL.nil ⟨(St.drop hs2 (List.sublist_append_right [_] _)), ?_⟩
   refine WH.take 16 rfl (by kernel_rfl) rfl rfl rfl (St.drop hs2 (List.sublist_append_right [_] _)) (fun w_ hs_ => (Run.nilCheck rfl rfl)) ?_
   refine WH.take 17 rfl (by kernel_rfl) rfl rfl rfl (St.drop hs2 (List.sublist_append_right [_] _)) (fun w_ hs_ => (Run.field Tryz.runUnderlying33 rfl rfl rfl Tryz.sizeOf3 rfl)) ?_
   refine WH.all [18] (by kernel_rfl) rfl (WHs.cons (i := 18) rfl ?_ WHs.nil)
   refine WL.st tbk hs2 0 rfl rfl (fun _ hs57 => ?_)
   refine WL.nil ⟨(St.drop hs57 (List.sublist_append_right [_] _)), ?_⟩
   refine WH.take 19 rfl (by kernel_rfl) rfl rfl rfl (St.drop hs57 (List.sublist_append_right [_] _)) (fun w_ hs_ => (Run.nilCheck rfl rfl)) ?_
   refine WH.take 20 rfl (by kernel_rfl) rfl rfl rfl (St.drop hs57 (List.sublist_append_right [_] _)) (fun w_ hs_ => (Run.field Tryz.runUnderlying33 rfl rfl rfl Tryz.sizeOf3 rfl)) ?_
   refine WH.all [21] (by kernel_rfl) rfl (WHs.cons (i := 21) rfl ?_ WHs.nil)
   refine WL.st tbk hs57 0 rfl rfl (fun _ hs58 => ?_)
   refine WL.nil ⟨(St.drop hs58 (List.sublist_append_right [_] _)), ?_⟩
   refine WH.take 22 rfl (by kernel_rfl) rfl rfl rfl (St.drop hs58 (List.sublist_append_right [_] _)) (fun w_ hs_ => (Run.nilCheck rfl rfl)) ?_
   refine WH.take 23 rfl (by kernel_rfl) rfl rfl rfl (St.drop hs58 (List.sublist_append_right [_] _)) (fun w_ hs_ => (Run.field Tryz.runUnderlying33 rfl rfl rfl Tryz.sizeOf30 rfl)) ?_
   refine WH.all [24] (by kernel_rfl) rfl (WHs.cons (i := 24) rfl ?_ WHs.nil)
   refine WL.st tbk hs58 0 rfl rfl (fun _ hs59 => ?_)
   refine WL.nil ⟨(St.drop hs59 (List.sublist_append_right [_] _)), ?_⟩
   refine WH.take 25 rfl (by kernel_rfl) rfl rfl rfl (St.drop hs59 (List.sublist_append_right [_] _)) (fun w_ hs_ => (Run.nilCheck rfl rfl)) ?_
   refine WH.take 26 rfl (by kernel_rfl) rfl rfl rfl (St.drop hs59 (List.sublist_append_right [_] _)) (fun w_ hs_ => (Run.field Tryz.runUnderlying33 rfl rfl rfl Tryz.sizeOf4 rfl)) ?_
   refine WH.all [27] (by kernel_rfl) rfl (WHs.cons (i := 27) rfl ?_ WHs.nil)
   refine WL.st tbk hs59 0 rfl rfl (fun _ hs60 => ?_)
   refine WL.nil ⟨(St.drop hs60 (List.sublist_append_right [_] _)), ?_⟩
   refine WH.done (by kernel_rfl) ?_
   refine retK0 rfl ?_
   obtain ⟨L61, L62, L63, L64, hs69, ho65, ho66, ho67, ho68⟩ := ownScrR.open_ (St.perm hs60 (L' := L_s ++ _) (perm_front (A := [_]) (List.Perm.refl _))) o_s
   have hs70 := (St.perm hs69 (L' := [_] ++ _) (perm_front (A := L61) (perm_front (A := L62) (perm_front (A := L63) (perm_front (A := L64) (List.Perm.refl _))))))
   obtain ⟨L72, hs71, ho73⟩ := ownScrR.fold ⟨0, 0, ⟨0, 0, ⟨_, _, _, _⟩⟩, ⟨0, 0, ⟨_, _, _, _⟩⟩, false, 0, 0, false, ⟨0, 0, false, false, false⟩, 0, 0, false, false, 0, 0, ⟨0, 0, false, false, false⟩, ⟨_, _, _, _⟩, 0, ⟨_, _, _, _⟩⟩ (St.perm (St.perm (St.perm (St.perm hs70 (L' := L64 ++ _) (perm_front (A := [_]) (perm_front (A := L61) (perm_front (A := L62) (perm_front (A := L63) (List.Perm.refl _)))))) (L' := L63 ++ _) (perm_front (A := L64) (perm_front (A := [_]) (perm_front (A := L61) (perm_front (A := L62) (List.Perm.refl _)))))) (L' := L62 ++ _) (perm_front (A := L63) (perm_front (A := L64) (perm_front (A := [_]) (perm_front (A := L61) (List.Perm.refl _)))))) (L' := L61 ++ _) (perm_front (A := L62) (perm_front (A := L63) (perm_front (A := L64) (perm_front (A := [_]) (List.Perm.refl _)))))) ho65 ho66 ho67 ho68
   have hs74 := (St.perm hs71 (L' := [_] ++ _) (perm_front (A := L72) (List.Perm.refl _)))
   refine ⟨⟨s.W, s.H, ⟨s.Main.W, s.Main.H, SlD.of ho65⟩, ⟨s.Alt.W, s.Alt.H, SlD.of ho66⟩, s.OnAlt, s.SaveX, s.SaveY, false, ⟨s.SaveA.Fg, s.SaveA.Bg, s.SaveA.Bold, s.SaveA.Under, s.SaveA.Turn⟩, s.Top, s.Bot, s.NoWrap, s.Hide, s.SaveX, s.SaveY, ⟨s.SaveA.Fg, s.SaveA.Bg, s.SaveA.Bold, s.SaveA.Under, s.SaveA.Turn⟩, SlD.of ho67, s.Limit, SlD.ofN ho68⟩, _, rfl, St.keepP (L1 := L72) (St.perm (St.perm hs74 (L' := L72 ++ _) (perm_front (A := [_]) (List.Perm.refl _))) (L' := [_] ++ _) (perm_front (A := L72) (List.Perm.refl _))), (by exact ho73), ?_⟩
   · rfl
 ·refine WL.run tbk 1 hs2 [0] rfl ⟨rfl, trivial⟩ ?_
  refine WL.nil ⟨(St.drop hs2 (List.sublist_append_right [_] _)), ?_⟩
  refine WH.all [7, 11] (by kernel_rfl) rfl (WHs.cons (i := 7) rfl ?_ (WHs.cons (i := 11) rfl ?_ WHs.nil))
  ·refine WL.run tbk 1 hs2 [0] rfl ⟨rfl, trivial⟩ ?_
   refine WL.nil ⟨(St.drop hs2 (List.sublist_append_right [_] _)), ?_⟩
   refine WH.all [11] (by kernel_rfl) rfl (WHs.cons (i := 11) rfl ?_ WHs.nil)
   refine WL.run tbk 1 hs2 [0] rfl ⟨rfl, trivial⟩ ?_
   refine WL.nil ⟨(St.drop hs2 (List.sublist_append_right [_] _)), ?_⟩
   refine WH.take 16 rfl (by kernel_rfl) rfl rfl rfl (St.drop hs2 (List.sublist_append_right [_] _)) (fun w_ hs_ => (Run.nilCheck rfl rfl)) ?_
   refine WH.take 17 rfl (by kernel_rfl) rfl rfl rfl (St.drop hs2 (List.sublist_append_right [_] _)) (fun w_ hs_ => (Run.field Tryz.runUnderlying33 rfl rfl rfl Tryz.sizeOf3 rfl)) ?_
   refine WH.all [18] (by kernel_rfl) rfl (WHs.cons (i := 18) rfl ?_ WHs.nil)
   refine WL.st tbk hs2 0 rfl rfl (fun _ hs75 => ?_)
   refine WL.nil ⟨(St.drop hs75 (List.sublist_append_right [_] _)), ?_⟩
   refine WH.take 19 rfl (by kernel_rfl) rfl rfl rfl (St.drop hs75 (List.sublist_append_right [_] _)) (fun w_ hs_ => (Run.nilCheck rfl rfl)) ?_
   refine WH.take 20 rfl (by kernel_rfl) rfl rfl rfl (St.drop hs75 (List.sublist_append_right [_] _)) (fun w_ hs_ => (Run.field Tryz.runUnderlying33 rfl rfl rfl Tryz.sizeOf3 rfl)) ?_
   refine WH.all [21] (by kernel_rfl) rfl (WHs.cons (i := 21) rfl ?_ WHs.nil)
   refine WL.st tbk hs75 0 rfl rfl (fun _ hs76 => ?_)
   refine WL.nil ⟨(St.drop hs76 (List.sublist_append_right [_] _)), ?_⟩
   refine WH.take 22 rfl (by kernel_rfl) rfl rfl rfl (St.drop hs76 (List.sublist_append_right [_] _)) (fun w_ hs_ => (Run.nilCheck rfl rfl)) ?_
   refine WH.take 23 rfl (by kernel_rfl) rfl rfl rfl (St.drop hs76 (List.sublist_append_right [_] _)) (fun w_ hs_ => (Run.field Tryz.runUnderlying33 rfl rfl rfl Tryz.sizeOf30 rfl)) ?_
   refine WH.all [24] (by kernel_rfl) rfl (WHs.cons (i := 24) rfl ?_ WHs.nil)
   refine WL.st tbk hs76 0 rfl rfl (fun _ hs77 => ?_)
   refine WL.nil ⟨(St.drop hs77 (List.sublist_append_right [_] _)), ?_⟩
   refine WH.take 25 rfl (by kernel_rfl) rfl rfl rfl (St.drop hs77 (List.sublist_append_right [_] _)) (fun w_ hs_ => (Run.nilCheck rfl rfl)) ?_
   refine WH.take 26 rfl (by kernel_rfl) rfl rfl rfl (St.drop hs77 (List.sublist_append_right [_] _)) (fun w_ hs_ => (Run.field Tryz.runUnderlying33 rfl rfl rfl Tryz.sizeOf4 rfl)) ?_
   refine WH.all [27] (by kernel_rfl) rfl (WHs.cons (i := 27) rfl ?_ WHs.nil)
   refine WL.st tbk hs77 0 rfl rfl (fun _ hs78 => ?_)
   refine WL.nil ⟨(St.drop hs78 (List.sublist_append_right [_] _)), ?_⟩
   refine WH.done (by kernel_rfl) ?_
   refine retK0 rfl ?_
   obtain ⟨L79, L80, L81, L82, hs87, ho83, ho84, ho85, ho86⟩ := ownScrR.open_ (St.perm hs78 (L' := L_s ++ _) (perm_front (A := [_]) (List.Perm.refl _))) o_s
   have hs88 := (St.perm hs87 (L' := [_] ++ _) (perm_front (A := L79) (perm_front (A := L80) (perm_front (A := L81) (perm_front (A := L82) (List.Perm.refl _))))))
   obtain ⟨L90, hs89, ho91⟩ := ownScrR.fold ⟨0, 0, ⟨0, 0, ⟨_, _, _, _⟩⟩, ⟨0, 0, ⟨_, _, _, _⟩⟩, false, 0, 0, false, ⟨0, 0, false, false, false⟩, 0, 0, false, false, 0, 0, ⟨0, 0, false, false, false⟩, ⟨_, _, _, _⟩, 0, ⟨_, _, _, _⟩⟩ (St.perm (St.perm (St.perm (St.perm hs88 (L' := L82 ++ _) (perm_front (A := [_]) (perm_front (A := L79) (perm_front (A := L80) (perm_front (A := L81) (List.Perm.refl _)))))) (L' := L81 ++ _) (perm_front (A := L82) (perm_front (A := [_]) (perm_front (A := L79) (perm_front (A := L80) (List.Perm.refl _)))))) (L' := L80 ++ _) (perm_front (A := L81) (perm_front (A := L82) (perm_front (A := [_]) (perm_front (A := L79) (List.Perm.refl _)))))) (L' := L79 ++ _) (perm_front (A := L80) (perm_front (A := L81) (perm_front (A := L82) (perm_front (A := [_]) (List.Perm.refl _)))))) ho83 ho84 ho85 ho86
   have hs92 := (St.perm hs89 (L' := [_] ++ _) (perm_front (A := L90) (List.Perm.refl _)))
   refine ⟨⟨s.W, s.H, ⟨s.Main.W, s.Main.H, SlD.of ho83⟩, ⟨s.Alt.W, s.Alt.H, SlD.of ho84⟩, s.OnAlt, s.SaveX, s.SaveY, false, ⟨s.SaveA.Fg, s.SaveA.Bg, s.SaveA.Bold, s.SaveA.Under, s.SaveA.Turn⟩, s.Top, s.Bot, s.NoWrap, s.Hide, s.SaveX, s.SaveY, ⟨s.SaveA.Fg, s.SaveA.Bg, s.SaveA.Bold, s.SaveA.Under, s.SaveA.Turn⟩, SlD.of ho85, s.Limit, SlD.ofN ho86⟩, _, rfl, St.keepP (L1 := L90) (St.perm (St.perm hs92 (L' := L90 ++ _) (perm_front (A := [_]) (List.Perm.refl _))) (L' := [_] ++ _) (perm_front (A := L90) (List.Perm.refl _))), (by exact ho91), ?_⟩
   · rfl
  ·refine WL.run tbk 1 hs2 [0] rfl ⟨rfl, trivial⟩ ?_
   refine WL.nil ⟨(St.drop hs2 (List.sublist_append_right [_] _)), ?_⟩
   refine WH.all [7] (by kernel_rfl) rfl (WHs.cons (i := 7) rfl ?_ WHs.nil)
   refine WL.run tbk 1 hs2 [0] rfl ⟨rfl, trivial⟩ ?_
   refine WL.nil ⟨(St.drop hs2 (List.sublist_append_right [_] _)), ?_⟩
   refine WH.take 16 rfl (by kernel_rfl) rfl rfl rfl (St.drop hs2 (List.sublist_append_right [_] _)) (fun w_ hs_ => (Run.nilCheck rfl rfl)) ?_
   refine WH.take 17 rfl (by kernel_rfl) rfl rfl rfl (St.drop hs2 (List.sublist_append_right [_] _)) (fun w_ hs_ => (Run.field Tryz.runUnderlying33 rfl rfl rfl Tryz.sizeOf3 rfl)) ?_
   refine WH.all [18] (by kernel_rfl) rfl (WHs.cons (i := 18) rfl ?_ WHs.nil)
   refine WL.st tbk hs2 0 rfl rfl (fun _ hs93 => ?_)
   refine WL.nil ⟨(St.drop hs93 (List.sublist_append_right [_] _)), ?_⟩
   refine WH.take 19 rfl (by kernel_rfl) rfl rfl rfl (St.drop hs93 (List.sublist_append_right [_] _)) (fun w_ hs_ => (Run.nilCheck rfl rfl)) ?_
   refine WH.take 20 rfl (by kernel_rfl) rfl rfl rfl (St.drop hs93 (List.sublist_append_right [_] _)) (fun w_ hs_ => (Run.field Tryz.runUnderlying33 rfl rfl rfl Tryz.sizeOf3 rfl)) ?_
   refine WH.all [21] (by kernel_rfl) rfl (WHs.cons (i := 21) rfl ?_ WHs.nil)
   refine WL.st tbk hs93 0 rfl rfl (fun _ hs94 => ?_)
   refine WL.nil ⟨(St.drop hs94 (List.sublist_append_right [_] _)), ?_⟩
   refine WH.take 22 rfl (by kernel_rfl) rfl rfl rfl (St.drop hs94 (List.sublist_append_right [_] _)) (fun w_ hs_ => (Run.nilCheck rfl rfl)) ?_
   refine WH.take 23 rfl (by kernel_rfl) rfl rfl rfl (St.drop hs94 (List.sublist_append_right [_] _)) (fun w_ hs_ => (Run.field Tryz.runUnderlying33 rfl rfl rfl Tryz.sizeOf30 rfl)) ?_
   refine WH.all [24] (by kernel_rfl) rfl (WHs.cons (i := 24) rfl ?_ WHs.nil)
   refine WL.st tbk hs94 0 rfl rfl (fun _ hs95 => ?_)
   refine WL.nil ⟨(St.drop hs95 (List.sublist_append_right [_] _)), ?_⟩
   refine WH.take 25 rfl (by kernel_rfl) rfl rfl rfl (St.drop hs95 (List.sublist_append_right [_] _)) (fun w_ hs_ => (Run.nilCheck rfl rfl)) ?_
   refine WH.take 26 rfl (by kernel_rfl) rfl rfl rfl (St.drop hs95 (List.sublist_append_right [_] _)) (fun w_ hs_ => (Run.field Tryz.runUnderlying33 rfl rfl rfl Tryz.sizeOf4 rfl)) ?_
   refine WH.all [27] (by kernel_rfl) rfl (WHs.cons (i := 27) rfl ?_ WHs.nil)
   refine WL.st tbk hs95 0 rfl rfl (fun _ hs96 => ?_)
   refine WL.nil ⟨(St.drop hs96 (List.sublist_append_right [_] _)), ?_⟩
   refine WH.done (by kernel_rfl) ?_
   refine retK0 rfl ?_
   obtain ⟨L97, L98, L99, L100, hs105, ho101, ho102, ho103, ho104⟩ := ownScrR.open_ (St.perm hs96 (L' := L_s ++ _) (perm_front (A := [_]) (List.Perm.refl _))) o_s
   have hs106 := (St.perm hs105 (L' := [_] ++ _) (perm_front (A := L97) (perm_front (A := L98) (perm_front (A := L99) (perm_front (A := L100) (List.Perm.refl _))))))
   obtain ⟨L108, hs107, ho109⟩ := ownScrR.fold ⟨0, 0, ⟨0, 0, ⟨_, _, _, _⟩⟩, ⟨0, 0, ⟨_, _, _, _⟩⟩, false, 0, 0, false, ⟨0, 0, false, false, false⟩, 0, 0, false, false, 0, 0, ⟨0, 0, false, false, false⟩, ⟨_, _, _, _⟩, 0, ⟨_, _, _, _⟩⟩ (St.perm (St.perm (St.perm (St.perm hs106 (L' := L100 ++ _) (perm_front (A := [_]) (perm_front (A := L97) (perm_front (A := L98) (perm_front (A := L99) (List.Perm.refl _)))))) (L' := L99 ++ _) (perm_front (A := L100) (perm_front (A := [_]) (perm_front (A := L97) (perm_front (A := L98) (List.Perm.refl _)))))) (L' := L98 ++ _) (perm_front (A := L99) (perm_front (A := L100) (perm_front (A := [_]) (perm_front (A := L97) (List.Perm.refl _)))))) (L' := L97 ++ _) (perm_front (A := L98) (perm_front (A := L99) (perm_front (A := L100) (perm_front (A := [_]) (List.Perm.refl _)))))) ho101 ho102 ho103 ho104
   have hs110 := (St.perm hs107 (L' := [_] ++ _) (perm_front (A := L108) (List.Perm.refl _)))
   refine ⟨⟨s.W, s.H, ⟨s.Main.W, s.Main.H, SlD.of ho101⟩, ⟨s.Alt.W, s.Alt.H, SlD.of ho102⟩, s.OnAlt, s.SaveX, s.SaveY, false, ⟨s.SaveA.Fg, s.SaveA.Bg, s.SaveA.Bold, s.SaveA.Under, s.SaveA.Turn⟩, s.Top, s.Bot, s.NoWrap, s.Hide, s.SaveX, s.SaveY, ⟨s.SaveA.Fg, s.SaveA.Bg, s.SaveA.Bold, s.SaveA.Under, s.SaveA.Turn⟩, SlD.of ho103, s.Limit, SlD.ofN ho104⟩, _, rfl, St.keepP (L1 := L108) (St.perm (St.perm hs110 (L' := L108 ++ _) (perm_front (A := [_]) (List.Perm.refl _))) (L' := [_] ++ _) (perm_front (A := L108) (List.Perm.refl _))), (by exact ho109), ?_⟩
   · rfl
end Go.Proofs.YtjmegoiclgancaaGreat
namespace Go.Proofs.YtjmegoiclgancaaGreat
open Go Go.RowKit
set_option linter.unusedVariables false
set_option linter.unusedSimpArgs false
theorem countP_lowb {l : List Int} {t : Int} : l.countP (fun x => decide (x < t)) = lowb l t := List.countP_eq_length_filter
theorem asc_le {l : List Int} {lo hi : Int} (h : isAsc l lo hi = true) : l.Pairwise (· ≤ ·) := (asc_pair.1 h).1.imp (fun h => Int.le_of_lt h)
theorem int_not {l : List Int} {x : Int} (h : ∀ j, j < l.length → iat l j ≠ x) : ¬ x ∈ l := by
  intro hx
  obtain ⟨j, hj, rfl⟩ := List.mem_iff_getElem.1 hx
  exact h j hj (gat_lt (F := encI) hj)
def tabTo (s : ScrD) (i : Nat) : List Int := ((List.range i).map (fun i : Nat => (i : Int))).filter (fun x => decide (x = s.X) || s.Tabs.contains x)
theorem tabTo_in {s : ScrD} {i : Nat} (h : (i : Int) = s.X ∨ s.Tabs.contains (i : Int) = true) : tabTo s (i + 1) = tabTo s i ++ [(i : Int)] := by
  unfold tabTo
  rw [List.range_succ, List.map_append, List.filter_append]
  congr 1
  show List.filter _ [(i : Int)] = _
  rw [List.filter_cons, if_pos (by rw [Bool.or_eq_true, decide_eq_true_eq]; exact h)]
  rfl
theorem tabTo_out {s : ScrD} {i : Nat} (h : ¬ ((i : Int) = s.X ∨ s.Tabs.contains (i : Int) = true)) : tabTo s (i + 1) = tabTo s i := by
  unfold tabTo
  rw [List.range_succ, List.map_append, List.filter_append]
  show _ ++ List.filter _ [(i : Int)] = _
  rw [List.filter_cons, if_neg (by rw [Bool.or_eq_true, decide_eq_true_eq]; exact h)]
  exact List.append_nil _
theorem tabTo_le {s : ScrD} {i : Nat} : (tabTo s i).length ≤ i := by
  refine Nat.le_trans (List.length_filter_le _ _) ?_
  rw [List.length_map, List.length_range]; exact Nat.le_refl _
end Go.Proofs.YtjmegoiclgancaaGreat
namespace Go.Proofs.YtjmegoiclgancaaGreat
open Go Go.RowKit Go.Shelf
set_option linter.unusedVariables false
set_option linter.unusedSimpArgs false
theorem frozen_of_heap {w : World} {b k : Nat} {cl : List Value} {e : TypeId} {lo hi : Nat} (h : w.heap[b]? = some (.cells cl.toArray e (lo, hi))) (hf : hi ≤ lo ∨ hi ≤ k ∨ k < lo) : w.frozen? ⟨b, k, none⟩ = false := by
  simp only [World.frozen?, h, Bool.and_eq_false_iff, decide_eq_false_iff_not]
  omega
theorem some_of_heap {w : World} {b k : Nat} {cl : List Value} {e : TypeId} {fz : Nat × Nat} (h : w.heap[b]? = some (.cells cl.toArray e fz)) (hk : k < cl.length) : (w.cell? ⟨b, k, none⟩).isSome = true := by
  rw [cell_of_heap (v := cl[k]) h (by simp [hk])]; rfl
theorem St.setCells (P : Program) {w0 w : World} {T : List Nat} {L : Hp} (hst : St w0 T L w) (i : Nat) {b off : Nat} {cl vs : List Value} {e : TypeId} {lo hi : Nat} (hi' : nthL L i = some (b, .cells cl.toArray e (lo, hi))) (h1 : ∀ v, v ∈ vs → v.oneCell' = true) (hlt : off + vs.length ≤ cl.length) (hfz : hi ≤ lo ∨ hi ≤ off ∨ off + vs.length ≤ lo) :
    St w0 T (setL L i (.cells (cl.take off ++ vs ++ cl.drop (off + vs.length)).toArray e (lo, hi))) (w.setCells b off vs) := by
  obtain ⟨w', hr, hs⟩ := hst.stored (P := P) i (off := off) hi' h1 hlt hfz
  have hh := (hst.own _ (nthL_mem hi')).1
  have h2 := run_storeCells_cells (P := P) b off vs 0 w (fun j hj => by rw [Nat.add_zero]; exact some_of_heap hh (by omega)) (fun j hj => by rw [Nat.add_zero]; exact frozen_of_heap hh (by omega)) h1
  rw [hr] at h2
  injection h2 with _ h3
  rw [Nat.add_zero] at h3
  exact h3 ▸ hs
section
variable {α : Type} {P Q R : List α} {x : α}
theorem ins_shift (hR : 1 ≤ R.length) :
    ((P ++ Q ++ R).take (P.length + 1) ++ Q ++ (P ++ Q ++ R).drop (P.length + 1 + Q.length)).take P.length ++ [x] ++ ((P ++ Q ++ R).take (P.length + 1) ++ Q ++ (P ++ Q ++ R).drop (P.length + 1 + Q.length)).drop (P.length + 1) = P ++ [x] ++ Q ++ R.drop 1 := by
  have hQR : ((Q ++ R).take 1).length = 1 := by rw [List.length_take, List.length_append]; omega
  have e1 : (P ++ Q ++ R).take (P.length + 1) = P ++ (Q ++ R).take 1 := by rw [List.append_assoc, List.take_length_add_append]
  have e2 : (P ++ Q ++ R).drop (P.length + 1 + Q.length) = R.drop 1 := by rw [show P.length + 1 + Q.length = (P ++ Q).length + 1 by rw [List.length_append]; omega, List.drop_length_add_append]
  rw [e1, e2]
  have e3 : (P ++ (Q ++ R).take 1 ++ Q ++ R.drop 1).take P.length = P := by rw [List.append_assoc, List.append_assoc]; exact List.take_left
  have e4 : (P ++ (Q ++ R).take 1 ++ Q ++ R.drop 1).drop (P.length + 1) = Q ++ R.drop 1 := by
    rw [List.append_assoc (P ++ _), List.drop_left' (by rw [List.length_append]; omega)]
  rw [e3, e4]
  simp only [List.append_assoc]
theorem ins_new (Z : List α) (hZ : Q.length + 1 ≤ Z.length) :
    (((P ++ Z).take P.length ++ [x] ++ (P ++ Z).drop (P.length + 1)).take (P.length + 1) ++ Q ++ ((P ++ Z).take P.length ++ [x] ++ (P ++ Z).drop (P.length + 1)).drop (P.length + 1 + Q.length)) = P ++ [x] ++ Q ++ Z.drop (Q.length + 1) := by
  have e0 : (P ++ Z).take P.length ++ [x] ++ (P ++ Z).drop (P.length + 1) = (P ++ [x]) ++ Z.drop 1 := by
    rw [List.take_left, List.drop_length_add_append]
  have hp : (P ++ [x]).length = P.length + 1 := by simp
  rw [e0, ← hp, List.take_left, List.drop_length_add_append, List.drop_drop, Nat.add_comm 1]
end
theorem rowsI : ∀ l : List Int, rows encI l = l.map (Value.int .i64)
  | [] => rfl
  | x :: l => by rw [rows_cons, rowsI l]; rfl
section
variable {P : Program} {ρ : Ren} {w : World}
theorem search_rd (L : Lays2.n25 P ρ) {A : Option Addr} {n c : Nat} {s : List Int} {x : Int} (f_s : SlF encI w A n s) (hasc : s.Pairwise (· ≤ ·)) (hn : n ≤ 1048576) :
    Calls P (ρ.f 25) #[.slice A n c, .int .i64 x] w fun e w' => e = .returned (.tuple #[.int .i64 (s.countP (· < x) : Nat), .bool (s.contains x)]) ∧ St w [] [] w' := by
  have hl := f_s.len
  by_cases h0 : n = 0
  · subst h0
    obtain rfl : s = [] := List.eq_nil_of_length_eq_zero hl
    refine (Any.slices_BinarySearch_int_empty L A c x w).mono ?_
    rintro e w' ⟨rfl, rfl⟩
    exact ⟨rfl, St.init _⟩
  · have hr := f_s.rd
    have hat : ∀ j, (hj : j < s.length) → (rows encI s)[j]? = some (.int .i64 (s.getD j 0)) := fun j hj => by
      rw [rowsI, List.getElem?_map, List.getElem?_eq_getElem hj, List.getD_eq_getElem?_getD, List.getElem?_eq_getElem hj]
      rfl
    cases A with
    | none => have := hr.some_ (by omega); cases this
    | some a =>
      obtain ⟨b, off, sp⟩ := a
      cases sp with
      | some q =>
        have h1 := hr.cell 0 _ (hat 0 (by omega))
        have e1 : (adr (some ⟨b, off, some q⟩)).add 0 = ⟨b, off, some q⟩ := by unfold adr Addr.add; split <;> simp_all
        rw [e1] at h1
        unfold World.cell? at h1
        split at h1 <;> simp at h1
      | none =>
        refine (Any.slices_BinarySearch_int L b off n c s x w (by omega) (by omega) (fun j hj => ?_) (by rw [List.take_of_length_le (by omega)]; exact hasc)).mono ?_
        · have h1 := hr.cell j _ (hat j hj)
          rwa [show (adr (some ⟨b, off, none⟩)).add j = ⟨b, off + j, none⟩ from addr_at b off j] at h1
        · rintro e w' ⟨rfl, q, rfl⟩
          rw [List.take_of_length_le (by omega)]
          exact ⟨rfl, ⟨rfl, rfl, rfl, Nat.le_refl _, fun _ _ _ => rfl, fun _ h => (by cases h), List.nodup_nil⟩⟩
theorem insert_own (L : Lays2.n21 P ρ) {v : Value} {s : List Int} {Ls : Hp} {i b c0 : Nat} {x : Int} (o_s : OwnF encI (ρ.t 3) v s Ls) (h_s : ∀ p, p ∈ Ls → w.heap[p.1]? = some p.2) (hi : i ≤ s.length) (hn : s.length ≤ 1048576) (hb : w.heap[b]? = some (.cells [Value.int .i64 x].toArray (ρ.t 3) (0, 0))) (hne : b ∉ Ls.map (·.1)) :
    Calls P (ρ.f 21) #[v, .int .i64 i, .slice (some ⟨b, 0, none⟩) 1 c0] w fun e w' => ∃ A c L1, e = .returned (.slice A (s.length + 1) c) ∧ St w (Ls.map (·.1)) L1 w' ∧ OwnF encI (ρ.t 3) (.slice A (s.length + 1) c) (s.take i ++ [x] ++ s.drop i) L1 := by
  have hst : St w (Ls.map (·.1)) Ls w := St.take w Ls h_s o_s.keys
  have hl : (s.take i ++ [x] ++ s.drop i).length = s.length + 1 := by simp; omega
  have hvs : ∀ j u, [Value.int .i64 x][j]? = some u → w.cell? ⟨b, 0 + j, none⟩ = some u := fun j u hj => by rw [Nat.zero_add]; exact cell_of_heap hb hj
  have h1v : ∀ u ∈ [Value.int .i64 x], u.oneCell' = true := by intro u hu; rw [List.mem_singleton] at hu; subst hu; rfl
  have hsa : w.shape? b = some (ρ.t 3, 1) := by simp [World.shape?, hb]
  have hfa : w.frozen? ⟨b, 0, none⟩ = false := frozen_of_heap hb (by omega)
  have hfe : w.frozen? ⟨b, 1, none⟩ = false := frozen_of_heap hb (by omega)
  have hml : maxLen = 9223372036854775807 := rfl
  -- the parts
  generalize hP : s.take i = p at hl ⊢
  generalize hQ : s.drop i = q at hl ⊢
  have hpq : s = p ++ q := by rw [← hP, ← hQ, List.take_append_drop]
  have hpl : p.length = i := by rw [← hP, List.length_take]; omega
  have hql : q.length = s.length - i := by rw [← hQ, List.length_drop]
  have rl : ∀ l : List Int, (rows encI l).length = l.length := fun l => by rw [rows_len]; exact Nat.mul_one _
  have hrow : rows encI (p ++ [x] ++ q) = rows encI p ++ [Value.int .i64 x] ++ rows encI q := by rw [rows_append, rows_append]; rfl
  have hrl := rl (p ++ [x] ++ q)
  have hrs : rows encI s = rows encI p ++ rows encI q := by rw [hpq, rows_append]
  have htp : (rows encI p ++ rows encI q).take i = rows encI p := List.take_left' (by rw [rl]; exact hpl)
  have hdp : (rows encI p ++ rows encI q).drop i = rows encI q := List.drop_left' (by rw [rl]; exact hpl)
  have rp := rl p
  have rq := rl q
  have hz : ∀ n, (Builtin.zeroCells (Value.int .i64 0).cells n).toList.length = n := fun n => by rw [Array.length_toList, size_zeroCells]; exact Nat.mul_one _
  -- a block that is ours
  have fin : ∀ (w' : World) (g cap lo hi' : Nat) (pre cl : List Value), St w (Ls.map (·.1)) ([(g, .cells (pre ++ cl).toArray (ρ.t 3) (lo, hi'))]) w' → cl.length = cap → s.length + 1 ≤ cap → cap ≤ maxLen → cl.take (s.length + 1) = rows encI (p ++ [x] ++ q) → (hi' ≤ lo ∨ (pre ++ cl).length ≤ lo) →
      ∃ A c L1, (Ending.returned (.slice (some ⟨g, pre.length, none⟩) (s.length + 1) cap)) = .returned (.slice A (s.length + 1) c) ∧ St w (Ls.map (·.1)) L1 w' ∧ OwnF encI (ρ.t 3) (.slice A (s.length + 1) c) (p ++ [x] ++ q) L1 := by
    intro w' g cap lo hi' pre cl hs h1 h2 h3 h4 h5
    refine ⟨_, _, _, rfl, hs, by rw [rows_len], .inr ⟨g, cap, pre.length, pre, cl, (lo, hi'), by rw [hl], rfl, by rw [hl]; exact h2, h3, by rw [h1]; exact (Nat.mul_one _).symm, ?_, h5, rfl⟩⟩
    rw [hl, ← h4]; exact congrArg (fun k => cl.take k) (Nat.mul_one _)
  have growEnd : ∀ (A : Option Addr) (cap : Nat), i = s.length → s.length ≤ cap → cap < s.length + 1 → (A = none → s.length = 0) → (∀ a, A = some a → ∀ j u, (rows encI p ++ rows encI q)[j]? = some u → w.cell? (a.add j) = some u) →
      Calls P (ρ.f 21) #[.slice A s.length cap, .int .i64 i, .slice (some ⟨b, 0, none⟩) 1 c0] w fun e w' => ∃ A c L1, e = .returned (.slice A (s.length + 1) c) ∧ St w (Ls.map (·.1)) L1 w' ∧ OwnF encI (ρ.t 3) (.slice A (s.length + 1) c) (p ++ [x] ++ q) L1 := by
    intro A cap e1 h1 h2 h3 h4
    rw [show ((i : Nat) : Int) = ((s.length : Nat) : Int) by rw [e1]]
    refine (Any2.slices_Insert_int_end_grow L A s.length cap b 0 1 c0 (rows encI p ++ rows encI q) [.int .i64 x] w (by omega) h1 h2 (by omega) (by rw [List.length_append]; omega) rfl h3 h4 hvs h1v).mono ?_
    rintro e w' ⟨rfl, rfl⟩
    have hq0 : q = [] := List.eq_nil_of_length_eq_zero (by omega)
    have hge := grownCap_ge w (s.length + 1) cap (ρ.t 3)
    have hcm : grownCap w (s.length + 1) cap (ρ.t 3) ≤ maxLen := grownCap_le_maxLen w (s.length + 1) cap (ρ.t 3) (by omega)
    have ec : ((rows encI p ++ rows encI q ++ [Value.int .i64 x]).toArray ++ Builtin.zeroCells (Value.int .i64 0).cells (grownCap w (s.length + 1) cap (ρ.t 3) - (s.length + 1))) = ([] ++ (rows encI (p ++ [x] ++ q) ++ (Builtin.zeroCells (Value.int .i64 0).cells (grownCap w (s.length + 1) cap (ρ.t 3) - (s.length + 1))).toList)).toArray := by
      rw [hrow, hq0]; apply Array.toList_inj.1; simp [rows_nil]
    rw [ec]
    refine fin _ w.heap.size _ 0 0 [] (rows encI (p ++ [x] ++ q) ++ (Builtin.zeroCells (Value.int .i64 0).cells (grownCap w (s.length + 1) cap (ρ.t 3) - (s.length + 1))).toList) ?_ ?_ hge hcm (List.take_left' (by omega)) (.inl (Nat.le_refl _))
    · exact (hst.drew.alloc _).drop (List.Sublist.cons_cons _ (List.nil_sublist _))
    · rw [List.length_append, hrl, hl, hz]
      omega
  rcases o_s.2 with ⟨⟨A, rfl⟩, h0, rfl⟩ | ⟨g, cap, o, pre, cl, ⟨lo, hi'⟩, rfl, rfl, hnc, hcm, hcl, htk, hfz, rfl⟩
  · have h2 := growEnd A 0 (by omega) (by omega) (by omega) (fun _ => h0) (fun a _ j u hj => by
      rw [List.getElem?_eq_none (by rw [List.length_append]; omega)] at hj; cases hj)
    rwa [h0] at h2 ⊢
  · have hh := h_s _ List.mem_cons_self
    simp only at hh hfz
    have hcl' : cl.length = cap := by rw [hcl]; exact Nat.mul_one _
    have htk' : cl.take s.length = rows encI p ++ rows encI q := by rw [← hrs, ← htk]; exact congrArg (fun k => cl.take k) (Nat.mul_one _).symm
    have hpc : (pre ++ cl).length = pre.length + cl.length := List.length_append
    have hcs : ∀ j u, (rows encI p ++ rows encI q)[j]? = some u → w.cell? ⟨g, pre.length + j, none⟩ = some u := fun j u hj => by
      refine cell_of_heap hh ?_
      rw [List.getElem?_append_right (by omega), show pre.length + j - pre.length = j by omega, ← hj, ← htk', List.getElem?_take]
      have hj2 := (List.getElem?_eq_some_iff.1 hj).1
      rw [List.length_append] at hj2
      rw [if_pos (by omega)]
    have hgb : b ≠ g := fun h9 => hne (by rw [h9]; exact List.mem_cons_self)
    by_cases hroom : s.length + 1 ≤ cap
    · obtain ⟨r, hr⟩ : ∃ r, cl = rows encI p ++ rows encI q ++ r := ⟨cl.drop s.length, by rw [← htk', List.take_append_drop]⟩
      have hrlen : r.length = cap - s.length := by
        have h9 := congrArg List.length hr
        rw [List.length_append, List.length_append] at h9
        omega
      by_cases he : i = s.length
      · rw [show ((i : Nat) : Int) = ((s.length : Nat) : Int) by rw [he]]
        refine (Any2.slices_Insert_int_end_room L g pre.length s.length cap b 0 1 c0 [.int .i64 x] w (by omega) hroom (by omega) rfl (fun j hj => some_of_heap hh (by omega)) (fun j hj => frozen_of_heap hh (by omega)) hvs h1v).mono ?_
        rintro e w' ⟨rfl, rfl⟩
        have h2 := St.setCells P hst 0 (off := pre.length + s.length) (vs := [.int .i64 x]) rfl h1v (by simp only [List.length_singleton]; omega) (by simp only [List.length_singleton]; omega)
        rw [splice_pre] at h2
        have hq0 : q = [] := List.eq_nil_of_length_eq_zero (by omega)
        refine fin _ g cap lo hi' pre _ h2 ?_ hroom hcm ?_ ?_
        · simp only [List.length_append, List.length_take, List.length_drop, List.length_singleton]; omega
        · rw [htk', hrow, hq0, rows_nil, List.append_nil, List.append_nil]
          exact List.take_left' (by rw [List.length_append, rl, List.length_singleton, hpl, he])
        · simp only [List.length_append, List.length_take, List.length_drop, List.length_singleton]; omega
      · refine (Any2.slices_Insert_int_shift L g pre.length s.length cap i b 0 1 c0 (rows encI p ++ rows encI q) [.int .i64 x] w (by omega) (by omega) hroom (by omega) hgb (by rw [List.length_append]; omega) rfl hcs (fun j hj => some_of_heap hh (by omega)) (fun j hj => frozen_of_heap hh (by omega)) hvs (fun u hu => by rw [← rows_append] at hu; exact rows_one u hu) h1v (ρ.t 3) (ρ.t 3) 1 (pre ++ cl).length hsa (by simp [World.shape?, hh]) (by omega) hfa hfe).mono ?_
        rintro e w' ⟨rfl, rfl⟩
        rw [hdp]
        have h2 := St.setCells P hst.drew 0 (off := pre.length + (i + 1)) (vs := rows encI q) rfl rows_one (by omega) (by omega)
        rw [splice_pre] at h2
        have h3 := St.setCells P h2 0 (off := pre.length + i) (vs := [.int .i64 x]) rfl h1v (by simp only [List.length_append, List.length_take, List.length_drop, List.length_singleton]; omega) (by simp only [List.length_append, List.length_take, List.length_drop, List.length_singleton]; omega)
        rw [splice_pre] at h3
        have e9 := ins_shift (P := rows encI p) (Q := rows encI q) (R := r) (x := Value.int .i64 x) (by omega)
        rw [← hr, rp, hpl] at e9
        have e8 : cl.take i ++ [Value.int .i64 x] ++ cl.drop (i + 1) = cl.take i ++ [Value.int .i64 x] ++ cl.drop (i + 1) := rfl
        refine fin _ g cap lo hi' pre _ h3 ?_ hroom hcm ?_ ?_
        · simp only [List.length_append, List.length_take, List.length_drop, List.length_singleton]; omega
        · rw [show [Value.int .i64 x].length = 1 from rfl, e9, hrow]
          exact List.take_left' (by simp only [List.length_append, List.length_singleton]; omega)
        · simp only [List.length_append, List.length_take, List.length_drop, List.length_singleton]; omega
    · by_cases he : i = s.length
      · exact growEnd _ cap he hnc (by omega) (fun h9 => by cases h9) (fun a ha j u hj => by cases ha; rw [addr_at]; exact hcs j u hj)
      · refine (Any2.slices_Insert_int_grow L g pre.length s.length cap i b 0 1 c0 (rows encI p ++ rows encI q) [.int .i64 x] w (by omega) (by omega) hnc (by omega) (by omega) (by rw [List.length_append]; omega) rfl hcs hvs (fun u hu => by rw [← rows_append] at hu; exact rows_one u hu) h1v).mono ?_
        rintro e w' ⟨rfl, rfl⟩
        rw [hdp, htp]
        have hge := grownCap_ge w (s.length + 1) cap (ρ.t 3)
        have hcm : grownCap w (s.length + 1) cap (ρ.t 3) ≤ maxLen := grownCap_le_maxLen w (s.length + 1) cap (ρ.t 3) (by omega)
        obtain ⟨Z, hZ⟩ : ∃ Z : List Value, Z = (Builtin.zeroCells (Value.int .i64 0).cells (s.length + 1 - i)).toList ++ (Builtin.zeroCells (Value.int .i64 0).cells (grownCap w (s.length + 1) cap (ρ.t 3) - (s.length + 1))).toList := ⟨_, rfl⟩
        have hZl : Z.length = grownCap w (s.length + 1) cap (ρ.t 3) - i := by
          rw [hZ, List.length_append, hz, hz]
          omega
        have ec : ((rows encI p).toArray ++ Builtin.zeroCells (Value.int .i64 0).cells (s.length + 1 - i) ++ Builtin.zeroCells (Value.int .i64 0).cells (grownCap w (s.length + 1) cap (ρ.t 3) - (s.length + 1))) = (rows encI p ++ Z).toArray := by
          rw [hZ]; apply Array.toList_inj.1; simp
        rw [ec]
        have h1 := hst.alloc (.cells (rows encI p ++ Z).toArray (ρ.t 3) (0, 0))
        have h2 := St.setCells P h1.drew 0 (off := i) (vs := [.int .i64 x]) rfl h1v (by simp only [List.length_append, List.length_singleton]; omega) (.inl (Nat.le_refl _))
        have h3 := St.setCells P h2.drew 0 (off := i + 1) (vs := rows encI q) rfl rows_one (by simp only [List.length_append, List.length_take, List.length_drop, List.length_singleton]; omega) (.inl (Nat.le_refl _))
        have e9 := ins_new (P := rows encI p) (Q := rows encI q) (x := Value.int .i64 x) Z (by omega)
        rw [rp, hpl] at e9
        rw [show [Value.int .i64 x].length = 1 from rfl, e9] at h3
        refine fin _ w.heap.size _ 0 0 [] (rows encI p ++ [Value.int .i64 x] ++ rows encI q ++ Z.drop ((rows encI q).length + 1)) (h3.drop (List.Sublist.cons_cons _ (List.nil_sublist _))) ?_ hge hcm ?_ (.inl (Nat.le_refl _))
        · simp only [List.length_append, List.length_singleton, List.length_drop]; omega
        · rw [hrow]
          exact List.take_left' (by simp only [List.length_append, List.length_singleton]; omega)
end
end Go.Proofs.YtjmegoiclgancaaGreat
namespace Go.Proofs.YtjmegoiclgancaaGreat
open Go Go.RowKit
set_option linter.unusedVariables false
set_option linter.unusedSimpArgs false
def lays25_ren : Go.Shelf.Ren := ⟨fun | 25 => 155 | 31 => 211 | 32 => 212 | 37 => 250 | n => n, fun | 0 => 0 | 3 => 3 | 4 => 4 | 22 => 23 | 40 => 219 | n => n, fun n => n⟩
theorem lays25 : Go.Proofs.Lays2.n25 Tryz.prog lays25_ren := {
  mixed := by kernel_rfl
  f25 := Tryz.func155.trans (congrArg some (by kernel_rfl))
  f31 := Tryz.func211.trans (congrArg some (by kernel_rfl))
  f32 := Tryz.func212.trans (congrArg some (by kernel_rfl))
  f37 := Tryz.func250.trans (congrArg some (by kernel_rfl))
  t0 := Tryz.underlying0
  a0 := Tryz.isAgg0
  z0 := Tryz.sizeOf0
  v0 := Tryz.zeroValue0
  t3 := Tryz.underlying3
  a3 := Tryz.isAgg3
  z3 := Tryz.sizeOf3
  v3 := Tryz.zeroValue3
  t4 := Tryz.underlying4
  a4 := Tryz.isAgg4
  z4 := Tryz.sizeOf4
  v4 := Tryz.zeroValue4
  t22 := Tryz.underlying23
  a22 := Tryz.isAgg23
  z22 := Tryz.sizeOf23
  v22 := Tryz.zeroValue23
  t40 := Tryz.underlying219
  a40 := Tryz.isAgg219
  z40 := Tryz.sizeOf219
  v40 := Tryz.zeroValue219 }
def lays21_ren : Go.Shelf.Ren := ⟨fun | 21 => 156 | 27 => 213 | 28 => 214 | 35 => 251 | 39 => 261 | n => n, fun | 0 => 0 | 3 => 3 | 4 => 4 | 22 => 23 | n => n, fun n => n⟩
theorem lays21 : Go.Proofs.Lays2.n21 Tryz.prog lays21_ren := {
  mixed := by kernel_rfl
  f21 := Tryz.func156.trans (congrArg some (by kernel_rfl))
  f27 := Tryz.func213.trans (congrArg some (by kernel_rfl))
  f28 := Tryz.func214.trans (congrArg some (by kernel_rfl))
  f35 := Tryz.func251.trans (congrArg some (by kernel_rfl))
  f39 := Tryz.func261.trans (congrArg some (by kernel_rfl))
  t0 := Tryz.underlying0
  a0 := Tryz.isAgg0
  z0 := Tryz.sizeOf0
  v0 := Tryz.zeroValue0
  t3 := Tryz.underlying3
  a3 := Tryz.isAgg3
  z3 := Tryz.sizeOf3
  v3 := Tryz.zeroValue3
  t4 := Tryz.underlying4
  a4 := Tryz.isAgg4
  z4 := Tryz.sizeOf4
  v4 := Tryz.zeroValue4
  t22 := Tryz.underlying23
  a22 := Tryz.isAgg23
  z22 := Tryz.sizeOf23
  v22 := Tryz.zeroValue23
  i3 := by kernel_rfl }
theorem c_slices_BinarySearch_int_int (A_s : Option Addr) (n_s c_s : Nat) (s : List Int) (x : Int) (w : World) (f_s : SlF encI w A_s n_s s) (hp : s.Pairwise (· ≤ ·)) (hn : n_s ≤ 1048576) :
    Calls Tryz.prog 155 #[.slice A_s n_s c_s, i64 x] w fun e w' => e = .returned (.tuple #[i64 (lowb s x), .bool (decide (x ∈ s))]) ∧ St w [] [] w' := by
 refine (search_rd lays25 f_s hp hn).mono ?_
 rintro e w' ⟨rfl, h1⟩
 refine ⟨?_, h1⟩
 rw [countP_lowb, List.contains_eq_mem]
theorem c_slices_Insert_int_int (v_s : Value) (s : List Int) (L_s : Hp) (i : Nat) (b_v : Nat) (x : Int) (w : World) (o_s : OwnF encI 3 v_s s L_s) (h_s : ∀ p, p ∈ L_s → w.heap[p.1]? = some p.2) (hv : w.heap[b_v]? = some (.cells [Value.int .i64 x].toArray 3 (0, 0))) (hvn : b_v ∉ L_s.map (·.1)) (hi : i ≤ s.length) (hn : s.length ≤ 1048576) :
    Calls Tryz.prog 156 #[v_s, .int .i64 i, .slice (some ⟨b_v, 0, none⟩) 1 1] w fun e w' => ∃ A c L1, e = .returned (.slice A (s.length + 1) c) ∧ St w (L_s.map (·.1)) L1 w' ∧ OwnF encI 3 (.slice A (s.length + 1) c) (insL s i x) L1 := by
 exact (insert_own lays21 o_s h_s hi hn hv hvn).mono fun e w' h => h
theorem c_spec_l02HasInt (A_l : Option Addr) (n_l c_l : Nat) (l : List Int) (x : Int) (w : World) (f_l : SlF encI w A_l n_l l) (hn : n_l ≤ 549755813888) :
    Calls Tryz.prog 69 #[.slice A_l n_l c_l, i64 x] w fun e w' => e = .returned (.bool (l.contains x)) ∧ St w [] [] w' := by
 have hl := f_l.len
 refine enter (vs := [.slice A_l n_l c_l, i64 x]) 17 Tryz.func69 rfl Tryz.ntmps69 rfl rfl ?_
 have hs1 := St.init w
 refine WC.rr tbk hs1 [] rfl trivial ?_
 refine WC.seq (fun K2 hK2 => ?_)
 refine WC.rr tbk hs1 [] rfl trivial ?_
 refine WC.block ?_
 refine WC.loopS [(1, _), (7, _), (8, _)] ⟨rfl, rfl, rfl, trivial⟩ hs1 (fun k_ f w' => ∃ (i : Nat), k_ = n_l - i ∧ (i ≤ n_l) ∧ (∀ j, j < i → iat l j ≠ x) ∧ Sub [(9, .int .i64 i)] f) ((fun (i : Nat) => n_l - i) (0)) ?_ ?_
 ·refine ⟨0, rfl, ?_, ?_, ⟨rfl, trivial⟩⟩
  · exact Nat.zero_le _
  · exact fun j hj => absurd hj (by omega)
 ·clear hs1
  rintro _ f w ⟨i, rfl, p0, p1, hG⟩ hF hs3
  refine WC.sub _ (hG.app hF) ?_
  clear hG hF
  refine WC.rr tbk hs3 [] rfl trivial ?_
  refine WC.seq (fun K4 hK4 => ?_)
  refine WC.cD rfl (fun qh5 => ?_) (fun qh5 => ?_)
  ·refine WC.skip ?_
   refine hK4 _ _ ?_
   refine WC.seq (fun K6 hK6 => ?_)
   refine WC.block ?_
   refine WC.sr ?_
   refine WL.val rfl rfl rfl (Run.idxN Tryz.runUnderlying23 Tryz.sizeOf3 rfl rfl rfl ?_ ?_ ?_) ?_
   · exact SlF.some_ (SlF.st0 f_l hs3)
   · omega
   · omega
   refine WL.val rfl rfl rfl (Run.load Tryz.isAgg3 rfl rfl (SlF.one1 (SlF.st0 f_l hs3) ?_ rfl)) ?_
   · omega
   refine WL.run tbk 1 hs3 [] rfl trivial ?_
   refine WL.nil ?_
   refine WC.rr tbk hs3 [] rfl trivial ?_
   refine WC.cD rfl (fun qh7 => ?_) (fun qh7 => ?_)
   ·refine WC.rr tbk hs3 [] rfl trivial ?_
    refine WC.ret ?_
    refine ibR (tkR (tkR (ibR (tkR ?_))))
    clear hK6 hK2
    refine retV1 rfl (resV.tmp rfl) ?_
    refine ⟨congrArg Ending.returned ?_, hs3.nil⟩
    congr 1; symm; rw [List.contains_iff_mem]; rw [← qh7]; exact gat_mem (F := encI) (by omega)
   ·refine WC.skip ?_
    refine hK6 _ _ ?_
    refine WC.region ?_
    refine WL.run tbk 2 hs3 [] rfl ⟨by omega, trivial⟩ ?_
    refine WL.nil ?_
    refine tkN ?_
    refine ⟨⟨rfl, rfl, rfl, trivial⟩, hs3, _, ?_, i + 1, rfl, ?_, ?_, ⟨rfl, trivial⟩⟩
    · omega
    · omega
    · intro j hj; rcases Nat.lt_or_ge j i with h_ | h_
      · exact p1 j h_
      · obtain rfl : j = i := by omega
        exact qh7
  ·refine WC.exit ?_
   refine hK2 _ _ ?_
   refine WC.rr tbk hs3 [] rfl trivial ?_
   refine WC.ret ?_
   refine retV1 rfl (resV.tmp rfl) ?_
   refine ⟨congrArg Ending.returned ?_, hs3.nil⟩
   congr 1; symm; rw [← Bool.not_eq_true, List.contains_iff_mem]; exact int_not (fun j hj => p1 j (by omega))
end Go.Proofs.YtjmegoiclgancaaGreat
namespace Go.Proofs.YtjmegoiclgancaaGreat
open Go Go.RowKit
set_option linter.unusedVariables false
set_option linter.unusedSimpArgs false
theorem c_impl_Scr_esc (b_s : Nat) (s : ScrR) (L_s : Hp) (b : Int) (w : World) (hb_s : w.heap[b_s]? = some (Obj.cells (List.toArray [i64 s.W, i64 s.H, i64 s.Main.W, i64 s.Main.H, .slice s.Main.Cells.A s.Main.Cells.n s.Main.Cells.c, i64 s.Alt.W, i64 s.Alt.H, .slice s.Alt.Cells.A s.Alt.Cells.n s.Alt.Cells.c, .bool s.OnAlt, i64 s.X, i64 s.Y, .bool s.Wrap, i64 s.A.Fg, i64 s.A.Bg, .bool s.A.Bold, .bool s.A.Under, .bool s.A.Turn, i64 s.Top, i64 s.Bot, .bool s.NoWrap, .bool s.Hide, i64 s.SaveX, i64 s.SaveY, i64 s.SaveA.Fg, i64 s.SaveA.Bg, .bool s.SaveA.Bold, .bool s.SaveA.Under, .bool s.SaveA.Turn, .slice s.Tabs.A s.Tabs.n s.Tabs.c, i64 s.Limit, .slice s.Back.A s.Back.n s.Back.c]) 33 (0, 0))) (o_s : ownScrR s L_s) (h_s : ∀ p, p ∈ L_s → w.heap[p.1]? = some p.2) (hd_ : (b_s :: L_s.map (·.1)).Nodup) (hf : ScrFine s.dat) (hsm : smScr 1048576 s.dat) :
    Calls Tryz.prog 76 #[.pointer (some ⟨b_s, 0, none⟩), i64 b] w fun e w' => ∃ r L1, e = .returned (.tuple #[]) ∧ St w (b_s :: L_s.map (·.1)) ([(b_s, Obj.cells (List.toArray [i64 r.W, i64 r.H, i64 r.Main.W, i64 r.Main.H, .slice r.Main.Cells.A r.Main.Cells.n r.Main.Cells.c, i64 r.Alt.W, i64 r.Alt.H, .slice r.Alt.Cells.A r.Alt.Cells.n r.Alt.Cells.c, .bool r.OnAlt, i64 r.X, i64 r.Y, .bool r.Wrap, i64 r.A.Fg, i64 r.A.Bg, .bool r.A.Bold, .bool r.A.Under, .bool r.A.Turn, i64 r.Top, i64 r.Bot, .bool r.NoWrap, .bool r.Hide, i64 r.SaveX, i64 r.SaveY, i64 r.SaveA.Fg, i64 r.SaveA.Bg, .bool r.SaveA.Bold, .bool r.SaveA.Under, .bool r.SaveA.Turn, .slice r.Tabs.A r.Tabs.n r.Tabs.c, i64 r.Limit, .slice r.Back.A r.Back.n r.Back.c]) 33 (0, 0))] ++ L1) w' ∧ ownScrR r L1 ∧ r.dat = escD s.dat b := by
 have hsmB : smScr 549755813888 s.dat := by first | assumption | exact smScr_mono hsm (by decide)
 have hok9 := hf.ok
 obtain ⟨hb1, hb2, hb3, hb4, hb5, hb6⟩ := scrOk_bnd hok9
 obtain ⟨hm, hma⟩ := scrOk_main hok9
 simp only [ScrR.dat, GridR.dat, List.length_map] at hb1 hb2 hb3 hb4 hb5 hb6
 obtain ⟨_, _, hTl, _⟩ := ownScrR.len o_s
 have hTs : s.Tabs.xs.length ≤ 1048576 := hsm.2.2.1
 refine enter (vs := [.pointer (some ⟨b_s, 0, none⟩), i64 b]) 89 Tryz.func76 rfl Tryz.ntmps76 rfl rfl ?_
 have hs1 := St.takeP w b_s _ L_s hb_s h_s hd_
 refine WC.rr tbk hs1 [] rfl trivial ?_
 refine WC.block ?_
 refine WC.rr tbk hs1 [] rfl trivial ?_
 refine WC.cond rfl (fun h2 => ?_) (fun h2 => ?_)
 ·have qh2 := h2
  try simp only [bf, within_iff, within_not] at qh2
  have e68 : b = 68 := by have h9 := h2; simpa using h9
  refine WC.region ?_
  refine WL.run tbk 1 hs1 [] rfl trivial ?_
  have hF3 : St _ _ ((_, _) :: (L_s ++ _)) _ := (St.perm (St.perm hs1 (L' := L_s ++ _) (perm_front (A := [_]) (List.Perm.refl _))) (L' := [_] ++ _) (perm_front (A := L_s) (List.Perm.refl _)))
  refine WL.call rfl rfl rfl (Run.call Tryz.call151 rfl rfl rfl) (c_impl_Scr_down _ s _ _ (St.headP hF3) o_s (St.ownP hF3) (St.nodupP hF3) ?_ ?_) ?_
  · first | (first | assumption | rfl | omega) | (first | assumption | omega | exact lowb_le)
  · first | (first | assumption | rfl | omega) | (first | assumption | omega | exact lowb_le)
  rintro _ whs4 ⟨r5, L6, rfl, hs4, ho7, hd8⟩
  replace hs4 := St.lendP hF3 hs4
  refine ⟨_, rfl, ?_⟩
  refine WL.nil ?_
  refine ibN ?_
  refine retK0 rfl ?_
  refine ⟨r5, _, rfl, St.keepP (L1 := L6) (St.perm (St.perm hs4 (L' := L6 ++ _) (perm_front (A := [_]) (List.Perm.refl _))) (L' := [_] ++ _) (perm_front (A := L6) (List.Perm.refl _))), ho7, ?_⟩
  · unfold escD; rw [if_pos e68]; exact hd8
 ·have qh2 := h2
  try simp only [bf, within_iff, within_not] at qh2
  have e68 : ¬ b = 68 := by have h9 := h2; simpa using h9
  refine WC.rr tbk hs1 [] rfl trivial ?_
  refine WC.cond rfl (fun h9 => ?_) (fun h9 => ?_)
  ·have qh9 := h9
   try simp only [bf, within_iff, within_not] at qh9
   have e77 : b = 77 := by have h9 := h9; simpa using h9
   refine WC.region ?_
   refine WL.run tbk 1 hs1 [] rfl trivial ?_
   have hF10 : St _ _ ((_, _) :: (L_s ++ _)) _ := (St.perm (St.perm hs1 (L' := L_s ++ _) (perm_front (A := [_]) (List.Perm.refl _))) (L' := [_] ++ _) (perm_front (A := L_s) (List.Perm.refl _)))
   refine WL.call rfl rfl rfl (Run.call Tryz.call152 rfl rfl rfl) (c_impl_Scr_up _ s _ _ (St.headP hF10) o_s (St.ownP hF10) (St.nodupP hF10) ?_ ?_) ?_
   · first | (first | assumption | rfl | omega) | (first | assumption | omega | exact lowb_le)
   · first | (first | assumption | rfl | omega) | (first | assumption | omega | exact lowb_le)
   rintro _ whs11 ⟨r12, L13, rfl, hs11, ho14, hd15⟩
   replace hs11 := St.lendP hF10 hs11
   refine ⟨_, rfl, ?_⟩
   refine WL.nil ?_
   refine ibN ?_
   refine retK0 rfl ?_
   refine ⟨r12, _, rfl, St.keepP (L1 := L13) (St.perm (St.perm hs11 (L' := L13 ++ _) (perm_front (A := [_]) (List.Perm.refl _))) (L' := [_] ++ _) (perm_front (A := L13) (List.Perm.refl _))), ho14, ?_⟩
   · unfold escD; rw [if_neg e68, if_pos e77]; exact hd15
  ·have qh9 := h9
   try simp only [bf, within_iff, within_not] at qh9
   have e77 : ¬ b = 77 := by have h9 := h9; simpa using h9
   refine WC.rr tbk hs1 [] rfl trivial ?_
   refine WC.cond rfl (fun h16 => ?_) (fun h16 => ?_)
   ·have qh16 := h16
    try simp only [bf, within_iff, within_not] at qh16
    have e69 : b = 69 := by have h9 := h16; simpa using h9
    refine WC.sr ?_
    refine WL.run tbk 1 hs1 [] rfl trivial ?_
    have hF17 : St _ _ ((_, _) :: (L_s ++ _)) _ := (St.perm (St.perm hs1 (L' := L_s ++ _) (perm_front (A := [_]) (List.Perm.refl _))) (L' := [_] ++ _) (perm_front (A := L_s) (List.Perm.refl _)))
    refine WL.call rfl rfl rfl (Run.call Tryz.call151 rfl rfl rfl) (c_impl_Scr_down _ s _ _ (St.headP hF17) o_s (St.ownP hF17) (St.nodupP hF17) ?_ ?_) ?_
    · first | (first | assumption | rfl | omega) | (first | assumption | omega | exact lowb_le)
    · first | (first | assumption | rfl | omega) | (first | assumption | omega | exact lowb_le)
    rintro _ whs18 ⟨r19, L20, rfl, hs18, ho21, hd22⟩
    replace hs18 := St.lendP hF17 hs18
    refine ⟨_, rfl, ?_⟩
    refine WL.nil ?_
    refine WC.region ?_
    refine WL.run tbk 1 hs18 [] rfl trivial ?_
    refine WL.val rfl rfl rfl (Run.nilCheck rfl rfl) ?_
    refine WL.run tbk 1 hs18 [] rfl trivial ?_
    refine WL.st tbk hs18 0 rfl rfl (fun _ hs23 => ?_)
    refine WL.nil ?_
    refine ibN ?_
    refine retK0 rfl ?_
    obtain ⟨L24, L25, L26, L27, hs32, ho28, ho29, ho30, ho31⟩ := ownScrR.open_ (St.perm hs23 (L' := L20 ++ _) (perm_front (A := [_]) (List.Perm.refl _))) ho21
    have hs33 := (St.perm hs32 (L' := [_] ++ _) (perm_front (A := L24) (perm_front (A := L25) (perm_front (A := L26) (perm_front (A := L27) (List.Perm.refl _))))))
    obtain ⟨L35, hs34, ho36⟩ := ownScrR.fold ⟨0, 0, ⟨0, 0, ⟨_, _, _, _⟩⟩, ⟨0, 0, ⟨_, _, _, _⟩⟩, false, 0, 0, false, ⟨0, 0, false, false, false⟩, 0, 0, false, false, 0, 0, ⟨0, 0, false, false, false⟩, ⟨_, _, _, _⟩, 0, ⟨_, _, _, _⟩⟩ (St.perm (St.perm (St.perm (St.perm hs33 (L' := L27 ++ _) (perm_front (A := [_]) (perm_front (A := L24) (perm_front (A := L25) (perm_front (A := L26) (List.Perm.refl _)))))) (L' := L26 ++ _) (perm_front (A := L27) (perm_front (A := [_]) (perm_front (A := L24) (perm_front (A := L25) (List.Perm.refl _)))))) (L' := L25 ++ _) (perm_front (A := L26) (perm_front (A := L27) (perm_front (A := [_]) (perm_front (A := L24) (List.Perm.refl _)))))) (L' := L24 ++ _) (perm_front (A := L25) (perm_front (A := L26) (perm_front (A := L27) (perm_front (A := [_]) (List.Perm.refl _)))))) ho28 ho29 ho30 ho31
    have hs37 := (St.perm hs34 (L' := [_] ++ _) (perm_front (A := L35) (List.Perm.refl _)))
    refine ⟨⟨r19.W, r19.H, ⟨r19.Main.W, r19.Main.H, SlD.of ho28⟩, ⟨r19.Alt.W, r19.Alt.H, SlD.of ho29⟩, r19.OnAlt, (0), r19.Y, r19.Wrap, ⟨r19.A.Fg, r19.A.Bg, r19.A.Bold, r19.A.Under, r19.A.Turn⟩, r19.Top, r19.Bot, r19.NoWrap, r19.Hide, r19.SaveX, r19.SaveY, ⟨r19.SaveA.Fg, r19.SaveA.Bg, r19.SaveA.Bold, r19.SaveA.Under, r19.SaveA.Turn⟩, SlD.of ho30, r19.Limit, SlD.ofN ho31⟩, _, rfl, St.keepP (L1 := L35) (St.perm (St.perm hs37 (L' := L35 ++ _) (perm_front (A := [_]) (List.Perm.refl _))) (L' := [_] ++ _) (perm_front (A := L35) (List.Perm.refl _))), (by exact ho36), ?_⟩
    · unfold escD; rw [if_neg e68, if_neg e77, if_pos e69]; show _ = ({ downD s.dat with X := 0 } : ScrD); rw [← hd22]; rfl
   ·have qh16 := h16
    try simp only [bf, within_iff, within_not] at qh16
    have e69 : ¬ b = 69 := by have h9 := h16; simpa using h9
    refine WC.rr tbk hs1 [] rfl trivial ?_
    refine WC.cond rfl (fun h38 => ?_) (fun h38 => ?_)
    ·have qh38 := h38
     try simp only [bf, within_iff, within_not] at qh38
     have e55 : b = 55 := by have h9 := h38; simpa using h9
     refine WC.region ?_
     refine WL.run tbk 1 hs1 [] rfl trivial ?_
     have hF39 : St _ _ ((_, _) :: (L_s ++ _)) _ := (St.perm (St.perm hs1 (L' := L_s ++ _) (perm_front (A := [_]) (List.Perm.refl _))) (L' := [_] ++ _) (perm_front (A := L_s) (List.Perm.refl _)))
     refine WL.call rfl rfl rfl (Run.call Tryz.call153 rfl rfl rfl) (c_impl_Scr_save _ s _ _ (St.headP hF39) o_s (St.ownP hF39) (St.nodupP hF39) ?_) ?_
     · first | (first | assumption | rfl | omega) | (first | assumption | omega | exact lowb_le)
     rintro _ whs40 ⟨r41, L42, rfl, hs40, ho43, hd44⟩
     replace hs40 := St.lendP hF39 hs40
     refine ⟨_, rfl, ?_⟩
     refine WL.nil ?_
     refine ibN ?_
     refine retK0 rfl ?_
     refine ⟨r41, _, rfl, St.keepP (L1 := L42) (St.perm (St.perm hs40 (L' := L42 ++ _) (perm_front (A := [_]) (List.Perm.refl _))) (L' := [_] ++ _) (perm_front (A := L42) (List.Perm.refl _))), ho43, ?_⟩
     · unfold escD; rw [if_neg e68, if_neg e77, if_neg e69, if_pos e55]; exact hd44
    ·have qh38 := h38
     try simp only [bf, within_iff, within_not] at qh38
     have e55 : ¬ b = 55 := by have h9 := h38; simpa using h9
     refine WC.rr tbk hs1 [] rfl trivial ?_
     refine WC.cond rfl (fun h45 => ?_) (fun h45 => ?_)
     ·have qh45 := h45
      try simp only [bf, within_iff, within_not] at qh45
      have e56 : b = 56 := by have h9 := h45; simpa using h9
      refine WC.region ?_
      refine WL.run tbk 1 hs1 [] rfl trivial ?_
      have hF46 : St _ _ ((_, _) :: (L_s ++ _)) _ := (St.perm (St.perm hs1 (L' := L_s ++ _) (perm_front (A := [_]) (List.Perm.refl _))) (L' := [_] ++ _) (perm_front (A := L_s) (List.Perm.refl _)))
      refine WL.call rfl rfl rfl (Run.call Tryz.call154 rfl rfl rfl) (c_impl_Scr_restore _ s _ _ (St.headP hF46) o_s (St.ownP hF46) (St.nodupP hF46) ?_) ?_
      · first | (first | assumption | rfl | omega) | (first | assumption | omega | exact lowb_le)
      rintro _ whs47 ⟨r48, L49, rfl, hs47, ho50, hd51⟩
      replace hs47 := St.lendP hF46 hs47
      refine ⟨_, rfl, ?_⟩
      refine WL.nil ?_
      refine ibN ?_
      refine retK0 rfl ?_
      refine ⟨r48, _, rfl, St.keepP (L1 := L49) (St.perm (St.perm hs47 (L' := L49 ++ _) (perm_front (A := [_]) (List.Perm.refl _))) (L' := [_] ++ _) (perm_front (A := L49) (List.Perm.refl _))), ho50, ?_⟩
      · unfold escD; rw [if_neg e68, if_neg e77, if_neg e69, if_neg e55, if_pos e56]; exact hd51
     ·have qh45 := h45
      try simp only [bf, within_iff, within_not] at qh45
      have e56 : ¬ b = 56 := by have h9 := h45; simpa using h9
      refine WC.rr tbk hs1 [] rfl trivial ?_
      refine WC.cond rfl (fun h52 => ?_) (fun h52 => ?_)
      ·have qh52 := h52
       try simp only [bf, within_iff, within_not] at qh52
       have e72 : b = 72 := by have h9 := h52; simpa using h9
       have hasc : s.Tabs.xs.Pairwise (· ≤ ·) := asc_le hf.tab
       refine WC.sq hs1 mixed (by kernel_rfl) ?_
       refine WQ.run tbk 1 [] rfl trivial ?_
       refine WQ.val rfl rfl rfl (fun w_ hs_ => (Run.nilCheck rfl rfl)) ?_
       refine WQ.run tbk 3 [0] rfl ⟨rfl, trivial⟩ ?_
       refine WQ.val rfl rfl rfl (fun w_ hs_ => (Run.nilCheck rfl rfl)) ?_
       refine WQ.run tbk 2 [0] rfl ⟨rfl, trivial⟩ ?_
       refine WQ.call rfl rfl rfl (fun w_ hs_ => (Run.call Tryz.call155 rfl rfl rfl)) (fun w_ hs_ => (c_slices_BinarySearch_int_int _ _ _ _ _ _ (ownScrR.ok (B := 549755813888) o_s (fun p_ hp_ => ((hs_ : St _ _ _ _).own p_ (List.mem_append_right [_] (List.mem_append_left _ hp_))).1) (by assumption)).Tabs ?_ ?_).mono fun e_ w_ h_ => ⟨h_.1, (hs_ : St _ _ _ _).call0 h_.2⟩) ?_
       · first | assumption | rfl | omega
       · first | assumption | rfl | omega
       refine WQ.run tbk 5 [] rfl trivial ?_
       refine WQ.nil (fun _ (hs53 : St _ _ _ _) => ?_)
       refine WC.rr tbk hs53 [] rfl trivial ?_
       refine WC.cond rfl (fun h54 => ?_) (fun h54 => ?_)
       ·have qh54 := h54
        try simp only [bf, within_iff, within_not] at qh54
        have hni : s.dat.X ∉ s.dat.Tabs := by show ¬ s.X ∈ s.Tabs.xs; have h9 := h54; simpa using h9
        refine WC.regionG 14 (fun w' => St _ _ _ w') (fun w' => St _ _ _ w') (fun w' => St _ _ _ w') mixed (St.drew (St.drop (St.drop hs53 (List.sublist_append_right [_] _)) (List.sublist_append_right L_s _))) (St.drew (St.drop (St.perm hs53 (L' := L_s ++ _) (perm_front (A := [_]) (List.Perm.refl _))) (List.sublist_append_right L_s _))) (St.drew hs53) (fun whs55 hs55 => ?_)
        replace hs55 : St _ _ _ _ := hs55
        refine WG.take 0 rfl (by kernel_rfl) (by kernel_rfl) rfl rfl rfl (St.drop (St.perm hs55 (L' := L_s ++ _) (perm_front (A := [_]) (List.Perm.refl _))) (List.sublist_append_right L_s _)) (fun w_ hs_ => (Run.move rfl rfl)) ?_
        refine WG.take 1 rfl (by kernel_rfl) (by kernel_rfl) rfl rfl rfl (St.drop (St.perm hs55 (L' := L_s ++ _) (perm_front (A := [_]) (List.Perm.refl _))) (List.sublist_append_right L_s _)) (fun w_ hs_ => (Run.move rfl rfl)) ?_
        refine WG.take 2 rfl (by kernel_rfl) (by kernel_rfl) rfl rfl rfl (St.drop (St.perm hs55 (L' := L_s ++ _) (perm_front (A := [_]) (List.Perm.refl _))) (List.sublist_append_right L_s _)) (fun w_ hs_ => (Run.nilCheck rfl rfl)) ?_
        refine WG.take 3 rfl (by kernel_rfl) (by kernel_rfl) rfl rfl rfl (St.drop (St.perm hs55 (L' := L_s ++ _) (perm_front (A := [_]) (List.Perm.refl _))) (List.sublist_append_right L_s _)) (fun w_ hs_ => (Run.field Tryz.runUnderlying33 rfl rfl rfl Tryz.sizeOf23 rfl)) ?_
        refine WG.take 4 rfl (by kernel_rfl) (by kernel_rfl) rfl rfl rfl (St.drop (St.perm hs55 (L' := L_s ++ _) (perm_front (A := [_]) (List.Perm.refl _))) (List.sublist_append_right L_s _)) (fun w_ hs_ => (Run.loadL (hs_ : St _ _ _ _) 0 Tryz.isAgg23 rfl rfl rfl rfl)) ?_
        refine WG.take 5 rfl (by kernel_rfl) (by kernel_rfl) rfl rfl rfl (St.drop (St.perm hs55 (L' := L_s ++ _) (perm_front (A := [_]) (List.Perm.refl _))) (List.sublist_append_right L_s _)) (fun w_ hs_ => (Run.move rfl rfl)) ?_
        refine WG.take 6 rfl (by kernel_rfl) (by kernel_rfl) rfl rfl rfl (St.drop (St.perm hs55 (L' := L_s ++ _) (perm_front (A := [_]) (List.Perm.refl _))) (List.sublist_append_right L_s _)) (fun w_ hs_ => (Run.move rfl rfl)) ?_
        refine WG.take 7 rfl (by kernel_rfl) (by kernel_rfl) rfl rfl rfl (St.drop (St.perm hs55 (L' := L_s ++ _) (perm_front (A := [_]) (List.Perm.refl _))) (List.sublist_append_right L_s _)) (fun w_ hs_ => (Run.nilCheck rfl rfl)) ?_
        refine WG.take 8 rfl (by kernel_rfl) (by kernel_rfl) rfl rfl rfl (St.drop (St.perm hs55 (L' := L_s ++ _) (perm_front (A := [_]) (List.Perm.refl _))) (List.sublist_append_right L_s _)) (fun w_ hs_ => (Run.field Tryz.runUnderlying33 rfl rfl rfl Tryz.sizeOf3 rfl)) ?_
        refine WG.take 9 rfl (by kernel_rfl) (by kernel_rfl) rfl rfl rfl (St.drop (St.perm hs55 (L' := L_s ++ _) (perm_front (A := [_]) (List.Perm.refl _))) (List.sublist_append_right L_s _)) (fun w_ hs_ => (Run.loadL (hs_ : St _ _ _ _) 0 Tryz.isAgg3 rfl rfl rfl rfl)) ?_
        refine WG.all [10] (by kernel_rfl) rfl (WGs.cons (i := 10) rfl rfl ?_ WGs.nil)
        refine WL.buildSlice hs55 Tryz.runUnderlying23 Tryz.sizeOf3 Tryz.zeroValue3 rfl rfl rfl rfl rfl rfl rfl rfl rfl rfl (fun b57 whs58 hs58 => ?_)
        refine WL.nil ⟨(St.drop (St.perm (St.drop hs58 (List.sublist_append_right [_] _)) (L' := L_s ++ _) (perm_front (A := [_]) (List.Perm.refl _))) (List.sublist_append_right L_s _)), ?_⟩
        refine WG.all [11] (by kernel_rfl) rfl (WGs.cons (i := 11) rfl rfl ?_ WGs.nil)
        obtain ⟨L60, L61, L62, L63, hs68, ho64, ho65, ho66, ho67⟩ := ownScrR.open_ (St.perm hs58 (L' := L_s ++ _) (perm_front (A := [_, _]) (List.Perm.refl _))) o_s
        have hs69 := (St.perm (St.perm hs68 (L' := [_] ++ _) (perm_front (A := L60) (perm_front (A := L61) (perm_front (A := L62) (perm_front (A := L63) (perm_front (A := [_]) (List.Perm.refl _))))))) (L' := [_] ++ _) (perm_front (A := [_]) (perm_front (A := L60) (perm_front (A := L61) (perm_front (A := L62) (perm_front (A := L63) (List.Perm.refl _)))))))
        refine WL.call rfl rfl rfl (Run.call Tryz.call156 rfl rfl rfl) (c_slices_Insert_int_int _ _ _ _ _ _ _ ho66 (fun p_ hp_ => (hs69.own p_ (List.mem_append_right [_, _] (List.mem_append_right _ (List.mem_append_right _ (List.mem_append_left _ hp_))))).1) (hs69.own _ (nthL_mem (i := 0) rfl)).1 (St.sepOwn (St.perm hs69 (L' := L62 ++ _) (perm_front (A := [_, _]) (perm_front (A := L60) (perm_front (A := L61) (List.Perm.refl _))))) (nthL_mem (i := 0) rfl)) ?_ ?_) ?_
        · first | (first | assumption | rfl | omega) | (first | assumption | omega | exact lowb_le)
        · first | (first | assumption | rfl | omega) | (first | assumption | omega | exact lowb_le)
        rintro _ whs59 ⟨A70, c71, L1_72, rfl, hs59, ho73⟩
        replace hs59 := St.lend (St.perm hs69 (L' := L62 ++ _) (perm_front (A := [_, _]) (perm_front (A := L60) (perm_front (A := L61) (List.Perm.refl _))))) hs59
        refine ⟨_, rfl, ?_⟩
        replace hs59 := St.back [_, _] hs59
        refine WL.nil ⟨(St.drop (St.perm (St.drop (St.perm (St.drop (St.perm (St.drop (St.perm (St.drop hs59 (List.sublist_append_right [_] _)) (L' := L1_72 ++ _) (perm_front (A := [_]) (List.Perm.refl _))) (List.sublist_append_right L1_72 _)) (L' := L60 ++ _) (perm_front (A := [_]) (List.Perm.refl _))) (List.sublist_append_right L60 _)) (L' := L61 ++ _) (perm_front (A := [_]) (List.Perm.refl _))) (List.sublist_append_right L61 _)) (L' := L63 ++ _) (perm_front (A := [_]) (List.Perm.refl _))) (List.sublist_append_right L63 _)), ?_⟩
        refine WG.takeB 12 rfl (by kernel_rfl) rfl rfl rfl rfl (St.drop (St.perm (St.drop (St.perm (St.drop (St.perm (St.drop (St.perm (St.drop hs59 (List.sublist_append_right [_] _)) (L' := L1_72 ++ _) (perm_front (A := [_]) (List.Perm.refl _))) (List.sublist_append_right L1_72 _)) (L' := L60 ++ _) (perm_front (A := [_]) (List.Perm.refl _))) (List.sublist_append_right L60 _)) (L' := L61 ++ _) (perm_front (A := [_]) (List.Perm.refl _))) (List.sublist_append_right L61 _)) (L' := L63 ++ _) (perm_front (A := [_]) (List.Perm.refl _))) (List.sublist_append_right L63 _)) (fun w_ => (Run.nilCheck rfl rfl)) ?_
        refine WG.take 13 rfl (by kernel_rfl) (by kernel_rfl) rfl rfl rfl (St.drop (St.perm (St.drop (St.perm (St.drop (St.perm (St.drop (St.perm (St.drop hs59 (List.sublist_append_right [_] _)) (L' := L1_72 ++ _) (perm_front (A := [_]) (List.Perm.refl _))) (List.sublist_append_right L1_72 _)) (L' := L60 ++ _) (perm_front (A := [_]) (List.Perm.refl _))) (List.sublist_append_right L60 _)) (L' := L61 ++ _) (perm_front (A := [_]) (List.Perm.refl _))) (List.sublist_append_right L61 _)) (L' := L63 ++ _) (perm_front (A := [_]) (List.Perm.refl _))) (List.sublist_append_right L63 _)) (fun w_ hs_ => (Run.field Tryz.runUnderlying33 rfl rfl rfl Tryz.sizeOf23 rfl)) ?_
        refine WG.all [14] (by kernel_rfl) rfl (WGs.consK rfl ?_ WGs.nil)
        refine WL.st tbk hs59 1 rfl rfl (fun _ hs74 => ?_)
        refine WL.nil ⟨(St.drop (St.drop (St.drop (St.drop (St.drop hs74 (List.sublist_append_right [_, _] _)) (List.sublist_append_right L1_72 _)) (List.sublist_append_right L60 _)) (List.sublist_append_right L61 _)) (List.sublist_append_right L63 _)), ?_⟩
        refine WH.done (by kernel_rfl) ?_
        refine ibN ?_
        refine retK0 rfl ?_
        obtain ⟨L76, hs75, ho77⟩ := ownScrR.fold ⟨0, 0, ⟨0, 0, ⟨_, _, _, _⟩⟩, ⟨0, 0, ⟨_, _, _, _⟩⟩, false, 0, 0, false, ⟨0, 0, false, false, false⟩, 0, 0, false, false, 0, 0, ⟨0, 0, false, false, false⟩, ⟨_, _, _, _⟩, 0, ⟨_, _, _, _⟩⟩ (St.perm (St.perm (St.perm (St.perm hs74 (L' := L63 ++ _) (perm_front (A := [_, _]) (perm_front (A := L1_72) (perm_front (A := L60) (perm_front (A := L61) (List.Perm.refl _)))))) (L' := L1_72 ++ _) (perm_front (A := L63) (perm_front (A := [_, _]) (List.Perm.refl _)))) (L' := L61 ++ _) (perm_front (A := L1_72) (perm_front (A := L63) (perm_front (A := [_, _]) (perm_front (A := L60) (List.Perm.refl _)))))) (L' := L60 ++ _) (perm_front (A := L61) (perm_front (A := L1_72) (perm_front (A := L63) (perm_front (A := [_, _]) (List.Perm.refl _)))))) ho64 ho65 ho73 ho67
        have hs78 := (St.perm (St.perm hs75 (L' := [_] ++ _) (perm_front (A := L76) (perm_front (A := [_]) (List.Perm.refl _)))) (L' := [_] ++ _) (perm_front (A := [_]) (perm_front (A := L76) (List.Perm.refl _))))
        refine ⟨⟨s.W, s.H, ⟨s.Main.W, s.Main.H, SlD.of ho64⟩, ⟨s.Alt.W, s.Alt.H, SlD.of ho65⟩, s.OnAlt, s.X, s.Y, s.Wrap, ⟨s.A.Fg, s.A.Bg, s.A.Bold, s.A.Under, s.A.Turn⟩, s.Top, s.Bot, s.NoWrap, s.Hide, s.SaveX, s.SaveY, ⟨s.SaveA.Fg, s.SaveA.Bg, s.SaveA.Bold, s.SaveA.Under, s.SaveA.Turn⟩, SlD.of ho73, s.Limit, SlD.ofN ho67⟩, _, rfl, St.keepP (L1 := L76) (St.perm (St.perm hs78 (L' := L76 ++ _) (perm_front (A := [_, _]) (List.Perm.refl _))) (L' := [_] ++ _) (perm_front (A := L76) (perm_front (A := [_]) (List.Perm.refl _)))), (by exact ho77), ?_⟩
        · unfold escD; rw [if_neg e68, if_neg e77, if_neg e69, if_neg e55, if_neg e56, if_pos e72]; refine Eq.trans ?_ (show ({ s.dat with Tabs := insL s.dat.Tabs (lowb s.dat.Tabs s.dat.X) s.dat.X } : ScrD) = tabD s.dat from by rw [tabL_ins hf hni]; rfl); rfl
       ·have qh54 := h54
        try simp only [bf, within_iff, within_not] at qh54
        have hin : s.dat.X ∈ s.dat.Tabs := by show s.X ∈ s.Tabs.xs; have h9 := h54; simpa using h9
        refine WC.skip ?_
        refine ibN ?_
        refine retK0 rfl ?_
        refine ⟨s, _, rfl, St.keepP (L1 := L_s) (St.perm (St.perm hs53 (L' := L_s ++ _) (perm_front (A := [_]) (List.Perm.refl _))) (L' := [_] ++ _) (perm_front (A := L_s) (List.Perm.refl _))), o_s, ?_⟩
        · unfold escD; rw [if_neg e68, if_neg e77, if_neg e69, if_neg e55, if_neg e56, if_pos e72]; refine Eq.trans ?_ (show ({ s.dat with Tabs := s.dat.Tabs } : ScrD) = tabD s.dat from by unfold tabD; rw [← tabL_has hf hin]); rfl
      ·have qh52 := h52
       try simp only [bf, within_iff, within_not] at qh52
       have e72 : ¬ b = 72 := by have h9 := h52; simpa using h9
       refine WC.rr tbk hs1 [] rfl trivial ?_
       refine WC.cond rfl (fun h79 => ?_) (fun h79 => ?_)
       ·have qh79 := h79
        try simp only [bf, within_iff, within_not] at qh79
        have e99 : b = 99 := by have h9 := h79; simpa using h9
        refine WC.sr ?_
        refine WL.run tbk 1 hs1 [] rfl trivial ?_
        refine WL.val rfl rfl rfl (Run.nilCheck rfl rfl) ?_
        refine WL.run tbk 3 hs1 [0] rfl ⟨rfl, trivial⟩ ?_
        refine WL.nil ?_
        refine WC.seq (fun K80 hK80 => ?_)
        refine WC.regionG 18 (fun w' => St _ _ _ w') (fun w' => St _ _ _ w') (fun w' => St _ _ _ w') mixed (St.drew (St.drop hs1 (List.sublist_append_right [_] _))) (St.drew hs1) (St.drew hs1) (fun whs81 hs81 => ?_)
        replace hs81 : St _ _ _ _ := hs81
        refine WG.take 0 rfl (by kernel_rfl) (by kernel_rfl) rfl rfl rfl hs81 (fun w_ hs_ => (Run.move rfl rfl)) ?_
        refine WG.take 1 rfl (by kernel_rfl) (by kernel_rfl) rfl rfl rfl hs81 (fun w_ hs_ => (Run.move rfl rfl)) ?_
        refine WG.take 2 rfl (by kernel_rfl) (by kernel_rfl) rfl rfl rfl hs81 (fun w_ hs_ => (Run.nilCheck rfl rfl)) ?_
        refine WG.take 3 rfl (by kernel_rfl) (by kernel_rfl) rfl rfl rfl hs81 (fun w_ hs_ => (Run.field Tryz.runUnderlying33 rfl rfl rfl Tryz.sizeOf3 rfl)) ?_
        refine WG.take 4 rfl (by kernel_rfl) (by kernel_rfl) rfl rfl rfl hs81 (fun w_ hs_ => (Run.loadL (hs_ : St _ _ _ _) 0 Tryz.isAgg3 rfl rfl rfl rfl)) ?_
        refine WG.take 5 rfl (by kernel_rfl) (by kernel_rfl) rfl rfl rfl hs81 (fun w_ hs_ => (Run.move rfl rfl)) ?_
        refine WG.take 6 rfl (by kernel_rfl) (by kernel_rfl) rfl rfl rfl hs81 (fun w_ hs_ => (Run.nilCheck rfl rfl)) ?_
        refine WG.take 7 rfl (by kernel_rfl) (by kernel_rfl) rfl rfl rfl hs81 (fun w_ hs_ => (Run.field Tryz.runUnderlying33 rfl rfl rfl Tryz.sizeOf3 rfl)) ?_
        refine WG.take 8 rfl (by kernel_rfl) (by kernel_rfl) rfl rfl rfl hs81 (fun w_ hs_ => (Run.loadL (hs_ : St _ _ _ _) 0 Tryz.isAgg3 rfl rfl rfl rfl)) ?_
        refine WG.take 9 rfl (by kernel_rfl) (by kernel_rfl) rfl rfl rfl hs81 (fun w_ hs_ => (Run.move rfl rfl)) ?_
        refine WG.take 10 rfl (by kernel_rfl) (by kernel_rfl) rfl rfl rfl hs81 (fun w_ hs_ => (Run.nilCheck rfl rfl)) ?_
        refine WG.take 11 rfl (by kernel_rfl) (by kernel_rfl) rfl rfl rfl hs81 (fun w_ hs_ => (Run.field Tryz.runUnderlying33 rfl rfl rfl Tryz.sizeOf3 rfl)) ?_
        refine WG.take 12 rfl (by kernel_rfl) (by kernel_rfl) rfl rfl rfl hs81 (fun w_ hs_ => (Run.loadL (hs_ : St _ _ _ _) 0 Tryz.isAgg3 rfl rfl rfl rfl)) ?_
        refine WG.all [13] (by kernel_rfl) rfl (WGs.cons (i := 13) rfl rfl ?_ WGs.nil)
        refine WL.call rfl rfl rfl (Run.call Tryz.call157 rfl rfl rfl) (c_impl_ScrNew _ _ _ _) ?_
        rintro _ whs83 ⟨r0_84, L0_85, rfl, hs83, ho86, hd0_87⟩
        replace hs83 := hs81.callF hs83
        refine ⟨_, rfl, ?_⟩
        replace hs83 := St.back [_] hs83
        refine WL.nil ⟨(St.drop (St.perm hs83 (L' := L0_85 ++ _) (perm_front (A := [_]) (List.Perm.refl _))) (List.sublist_append_right L0_85 _)), ?_⟩
        refine WG.take 14 rfl (by kernel_rfl) (by kernel_rfl) rfl rfl rfl (St.drop (St.perm hs83 (L' := L0_85 ++ _) (perm_front (A := [_]) (List.Perm.refl _))) (List.sublist_append_right L0_85 _)) (fun w_ hs_ => (Run.move rfl rfl)) ?_
        refine WG.take 15 rfl (by kernel_rfl) (by kernel_rfl) rfl rfl rfl (St.drop (St.perm hs83 (L' := L0_85 ++ _) (perm_front (A := [_]) (List.Perm.refl _))) (List.sublist_append_right L0_85 _)) (fun w_ hs_ => (Run.extract rfl rfl rfl)) ?_
        refine WG.takeB 16 rfl (by kernel_rfl) rfl rfl rfl rfl (St.drop (St.perm hs83 (L' := L0_85 ++ _) (perm_front (A := [_]) (List.Perm.refl _))) (List.sublist_append_right L0_85 _)) (fun w_ => (Run.extract rfl rfl rfl)) ?_
        refine WG.take 17 rfl (by kernel_rfl) (by kernel_rfl) rfl rfl rfl (St.drop (St.perm hs83 (L' := L0_85 ++ _) (perm_front (A := [_]) (List.Perm.refl _))) (List.sublist_append_right L0_85 _)) (fun w_ hs_ => (Run.nilCheck rfl rfl)) ?_
        refine WG.all [18] (by kernel_rfl) rfl (WGs.consK rfl ?_ WGs.nil)
        refine WL.st tbk hs83 0 rfl rfl (fun _ hs88 => ?_)
        refine WL.nil ⟨(St.drop (St.drop hs88 (List.sublist_append_right [_] _)) (List.sublist_append_right L0_85 _)), ?_⟩
        refine WH.done (by kernel_rfl) ?_
        refine hK80 _ _ ?_
        refine WC.region ?_
        refine WL.run tbk 2 hs88 [] rfl trivial ?_
        refine WL.val rfl rfl rfl (Run.nilCheck rfl rfl) ?_
        refine WL.run tbk 1 hs88 [] rfl trivial ?_
        refine WL.st tbk hs88 0 rfl rfl (fun _ hs89 => ?_)
        refine WL.nil ?_
        refine ibN ?_
        refine retK0 rfl ?_
        obtain ⟨L90, L91, L92, L93, hs98, ho94, ho95, ho96, ho97⟩ := ownScrR.open_ (St.perm hs89 (L' := L0_85 ++ _) (perm_front (A := [_]) (List.Perm.refl _))) ho86
        have hs99 := (St.perm hs98 (L' := [_] ++ _) (perm_front (A := L90) (perm_front (A := L91) (perm_front (A := L92) (perm_front (A := L93) (List.Perm.refl _))))))
        obtain ⟨L100, L101, L102, L103, hs108, ho104, ho105, ho106, ho107⟩ := ownScrR.open_ (St.perm hs99 (L' := L_s ++ _) (perm_front (A := [_]) (perm_front (A := L90) (perm_front (A := L91) (perm_front (A := L92) (perm_front (A := L93) (List.Perm.refl _))))))) o_s
        have hs109 := (St.perm hs108 (L' := [_] ++ _) (perm_front (A := L100) (perm_front (A := L101) (perm_front (A := L102) (perm_front (A := L103) (List.Perm.refl _))))))
        obtain ⟨L111, hs110, ho112⟩ := ownScrR.fold ⟨0, 0, ⟨0, 0, ⟨_, _, _, _⟩⟩, ⟨0, 0, ⟨_, _, _, _⟩⟩, false, 0, 0, false, ⟨0, 0, false, false, false⟩, 0, 0, false, false, 0, 0, ⟨0, 0, false, false, false⟩, ⟨_, _, _, _⟩, 0, ⟨_, _, _, _⟩⟩ (St.perm (St.perm (St.perm (St.perm hs109 (L' := L103 ++ _) (perm_front (A := [_]) (perm_front (A := L100) (perm_front (A := L101) (perm_front (A := L102) (List.Perm.refl _)))))) (L' := L92 ++ _) (perm_front (A := L103) (perm_front (A := [_]) (perm_front (A := L100) (perm_front (A := L101) (perm_front (A := L102) (perm_front (A := L90) (perm_front (A := L91) (List.Perm.refl _))))))))) (L' := L91 ++ _) (perm_front (A := L92) (perm_front (A := L103) (perm_front (A := [_]) (perm_front (A := L100) (perm_front (A := L101) (perm_front (A := L102) (perm_front (A := L90) (List.Perm.refl _))))))))) (L' := L90 ++ _) (perm_front (A := L91) (perm_front (A := L92) (perm_front (A := L103) (perm_front (A := [_]) (perm_front (A := L100) (perm_front (A := L101) (perm_front (A := L102) (List.Perm.refl _))))))))) ho94 ho95 ho96 ho107
        have hs113 := (St.perm hs110 (L' := [_] ++ _) (perm_front (A := L111) (List.Perm.refl _)))
        refine ⟨⟨r0_84.W, r0_84.H, ⟨r0_84.Main.W, r0_84.Main.H, SlD.of ho94⟩, ⟨r0_84.Alt.W, r0_84.Alt.H, SlD.of ho95⟩, r0_84.OnAlt, r0_84.X, r0_84.Y, r0_84.Wrap, ⟨r0_84.A.Fg, r0_84.A.Bg, r0_84.A.Bold, r0_84.A.Under, r0_84.A.Turn⟩, r0_84.Top, r0_84.Bot, r0_84.NoWrap, r0_84.Hide, r0_84.SaveX, r0_84.SaveY, ⟨r0_84.SaveA.Fg, r0_84.SaveA.Bg, r0_84.SaveA.Bold, r0_84.SaveA.Under, r0_84.SaveA.Turn⟩, SlD.of ho96, r0_84.Limit, SlD.ofN ho107⟩, _, rfl, St.keepP (L1 := L111) (St.perm (St.perm hs113 (L' := L111 ++ _) (perm_front (A := [_]) (List.Perm.refl _))) (L' := [_] ++ _) (perm_front (A := L111) (List.Perm.refl _))), (by exact ho112), ?_⟩
        · unfold escD; rw [if_neg e68, if_neg e77, if_neg e69, if_neg e55, if_neg e56, if_neg e72, if_pos e99]; have hm9 : scrRes s.W s.H s.Limit = scrNew s.W s.H s.Limit := by { unfold scrRes scrMay; rw [if_pos]; rw [Bool.and_eq_true, within_iff]; exact ⟨hf.size, hf.lim.1⟩ }; refine Eq.trans ?_ (show ({ scrRes s.W s.H s.Limit with Back := s.dat.Back } : ScrD) = resetD s.dat from by rw [hm9]; rfl); rw [← hd0_87]; rfl
       ·have qh79 := h79
        try simp only [bf, within_iff, within_not] at qh79
        have e99 : ¬ b = 99 := by have h9 := h79; simpa using h9
        refine WC.skip ?_
        refine ibN ?_
        refine retK0 rfl ?_
        refine ⟨s, _, rfl, St.keepP (L1 := L_s) (St.perm (St.perm hs1 (L' := L_s ++ _) (perm_front (A := [_]) (List.Perm.refl _))) (L' := [_] ++ _) (perm_front (A := L_s) (List.Perm.refl _))), o_s, ?_⟩
        · unfold escD; rw [if_neg e68, if_neg e77, if_neg e69, if_neg e55, if_neg e56, if_neg e72, if_neg e99]
end Go.Proofs.YtjmegoiclgancaaGreat
namespace Go.Proofs.YtjmegoiclgancaaGreat
open Go Go.RowKit
set_option linter.unusedVariables false
set_option linter.unusedSimpArgs false
theorem c_impl_ScrEsc_1 (b_s : Nat) (s : ScrR) (L_s : Hp) (b_b : Nat) (b : Int) (w : World) (hb_s : w.heap[b_s]? = some (Obj.cells (List.toArray [i64 s.W, i64 s.H, i64 s.Main.W, i64 s.Main.H, .slice s.Main.Cells.A s.Main.Cells.n s.Main.Cells.c, i64 s.Alt.W, i64 s.Alt.H, .slice s.Alt.Cells.A s.Alt.Cells.n s.Alt.Cells.c, .bool s.OnAlt, i64 s.X, i64 s.Y, .bool s.Wrap, i64 s.A.Fg, i64 s.A.Bg, .bool s.A.Bold, .bool s.A.Under, .bool s.A.Turn, i64 s.Top, i64 s.Bot, .bool s.NoWrap, .bool s.Hide, i64 s.SaveX, i64 s.SaveY, i64 s.SaveA.Fg, i64 s.SaveA.Bg, .bool s.SaveA.Bold, .bool s.SaveA.Under, .bool s.SaveA.Turn, .slice s.Tabs.A s.Tabs.n s.Tabs.c, i64 s.Limit, .slice s.Back.A s.Back.n s.Back.c]) 33 (0, 0))) (o_s : ownScrR s L_s) (h_s : ∀ p, p ∈ L_s → w.heap[p.1]? = some p.2) (f_b : SlF encI w (some ⟨b_b, 0, none⟩) 1 [b]) (s_b : 0 < 1 → (adr (some ⟨b_b, 0, none⟩)).block ∉ (b_s :: L_s.map (·.1))) (hd_ : (b_s :: L_s.map (·.1)).Nodup) (hok : scrOk s.dat = true) (hsm : smScr 1048576 s.dat) :
    Calls Tryz.prog 75 #[.pointer (some ⟨b_s, 0, none⟩), .pointer (some ⟨b_b, 0, none⟩)] w fun e w' => ∃ r L1, e = .returned (.tuple #[]) ∧ St w (b_s :: L_s.map (·.1)) ([(b_s, Obj.cells (List.toArray [i64 r.W, i64 r.H, i64 r.Main.W, i64 r.Main.H, .slice r.Main.Cells.A r.Main.Cells.n r.Main.Cells.c, i64 r.Alt.W, i64 r.Alt.H, .slice r.Alt.Cells.A r.Alt.Cells.n r.Alt.Cells.c, .bool r.OnAlt, i64 r.X, i64 r.Y, .bool r.Wrap, i64 r.A.Fg, i64 r.A.Bg, .bool r.A.Bold, .bool r.A.Under, .bool r.A.Turn, i64 r.Top, i64 r.Bot, .bool r.NoWrap, .bool r.Hide, i64 r.SaveX, i64 r.SaveY, i64 r.SaveA.Fg, i64 r.SaveA.Bg, .bool r.SaveA.Bold, .bool r.SaveA.Under, .bool r.SaveA.Turn, .slice r.Tabs.A r.Tabs.n r.Tabs.c, i64 r.Limit, .slice r.Back.A r.Back.n r.Back.c]) 33 (0, 0))] ++ L1) w' ∧ ownScrR r L1 ∧ r.dat = escD s.dat b := by
 have hsmB : smScr 549755813888 s.dat := smScr_mono hsm (by decide)
 refine enter (vs := [.pointer (some ⟨b_s, 0, none⟩), .pointer (some ⟨b_b, 0, none⟩)]) 6 Tryz.func75 rfl Tryz.ntmps75 rfl rfl ?_
 have hs1 := St.takeP w b_s _ L_s hb_s h_s hd_
 refine WC.region ?_
 refine WL.run tbk 1 hs1 [] rfl trivial ?_
 refine WL.val rfl rfl rfl (Run.load Tryz.isAgg3 rfl rfl (SlF.var (SlF.st f_b hs1 s_b) rfl)) ?_
 have hF2 : St _ _ ((_, _) :: (L_s ++ _)) _ := (St.perm (St.perm hs1 (L' := L_s ++ _) (perm_front (A := [_]) (List.Perm.refl _))) (L' := [_] ++ _) (perm_front (A := L_s) (List.Perm.refl _)))
 refine WL.call rfl rfl rfl (Run.call Tryz.call76 rfl rfl rfl) (c_impl_Scr_esc _ s _ _ _ (St.headP hF2) o_s (St.ownP hF2) (St.nodupP hF2) ?_ ?_) ?_
 · first | (first | assumption | rfl | omega) | (first | assumption | exact ScrFine.of hok)
 · first | (first | assumption | rfl | omega) | (first | assumption | exact ScrFine.of hok)
 rintro _ whs3 ⟨r4, L5, rfl, hs3, ho6, hd7⟩
 replace hs3 := St.lendP hF2 hs3
 refine ⟨_, rfl, ?_⟩
 refine WL.nil ?_
 refine retK0 rfl ?_
 refine ⟨r4, _, rfl, St.keepP (L1 := L5) (St.perm (St.perm hs3 (L' := L5 ++ _) (perm_front (A := [_]) (List.Perm.refl _))) (L' := [_] ++ _) (perm_front (A := L5) (List.Perm.refl _))), ho6, ?_⟩
 · exact hd7
theorem c_impl_Scr_changed_esc (s : ScrR) (b_b : Nat) (b : Int) (w : World) (f_s : okScrR 549755813888 w s) (f_b : SlF encI w (some ⟨b_b, 0, none⟩) 1 [b]) (hsm : smScr 1048576 s.dat) :
    Calls Tryz.prog 74 #[.agg #[i64 s.W, i64 s.H, i64 s.Main.W, i64 s.Main.H, .slice s.Main.Cells.A s.Main.Cells.n s.Main.Cells.c, i64 s.Alt.W, i64 s.Alt.H, .slice s.Alt.Cells.A s.Alt.Cells.n s.Alt.Cells.c, .bool s.OnAlt, i64 s.X, i64 s.Y, .bool s.Wrap, i64 s.A.Fg, i64 s.A.Bg, .bool s.A.Bold, .bool s.A.Under, .bool s.A.Turn, i64 s.Top, i64 s.Bot, .bool s.NoWrap, .bool s.Hide, i64 s.SaveX, i64 s.SaveY, i64 s.SaveA.Fg, i64 s.SaveA.Bg, .bool s.SaveA.Bold, .bool s.SaveA.Under, .bool s.SaveA.Turn, .slice s.Tabs.A s.Tabs.n s.Tabs.c, i64 s.Limit, .slice s.Back.A s.Back.n s.Back.c], .func (.func 75) #[] #[.pointer (some ⟨b_b, 0, none⟩)]] w fun e w' => ∃ r L1, e = .returned (.agg #[i64 r.W, i64 r.H, i64 r.Main.W, i64 r.Main.H, .slice r.Main.Cells.A r.Main.Cells.n r.Main.Cells.c, i64 r.Alt.W, i64 r.Alt.H, .slice r.Alt.Cells.A r.Alt.Cells.n r.Alt.Cells.c, .bool r.OnAlt, i64 r.X, i64 r.Y, .bool r.Wrap, i64 r.A.Fg, i64 r.A.Bg, .bool r.A.Bold, .bool r.A.Under, .bool r.A.Turn, i64 r.Top, i64 r.Bot, .bool r.NoWrap, .bool r.Hide, i64 r.SaveX, i64 r.SaveY, i64 r.SaveA.Fg, i64 r.SaveA.Bg, .bool r.SaveA.Bold, .bool r.SaveA.Under, .bool r.SaveA.Turn, .slice r.Tabs.A r.Tabs.n r.Tabs.c, i64 r.Limit, .slice r.Back.A r.Back.n r.Back.c]) ∧ St w [] L1 w' ∧ ownScrR r L1 ∧ r.dat = scrEscRes s.dat b := by
 have nb_s_Main_Cells := f_s.Main.Cells_n
 have nl_s_Main_Cells := f_s.Main.Cells.len
 have nb_s_Alt_Cells := f_s.Alt.Cells_n
 have nl_s_Alt_Cells := f_s.Alt.Cells.len
 have nb_s_Tabs := f_s.Tabs_n
 have nl_s_Tabs := f_s.Tabs.len
 have nb_s_Back := f_s.Back_n
 have nl_s_Back := f_s.Back.sl.len
 have hsmB : smScr 549755813888 s.dat := by first | assumption | exact smScr_mono hsm (by decide)
 refine enter (vs := [.agg #[i64 s.W, i64 s.H, i64 s.Main.W, i64 s.Main.H, .slice s.Main.Cells.A s.Main.Cells.n s.Main.Cells.c, i64 s.Alt.W, i64 s.Alt.H, .slice s.Alt.Cells.A s.Alt.Cells.n s.Alt.Cells.c, .bool s.OnAlt, i64 s.X, i64 s.Y, .bool s.Wrap, i64 s.A.Fg, i64 s.A.Bg, .bool s.A.Bold, .bool s.A.Under, .bool s.A.Turn, i64 s.Top, i64 s.Bot, .bool s.NoWrap, .bool s.Hide, i64 s.SaveX, i64 s.SaveY, i64 s.SaveA.Fg, i64 s.SaveA.Bg, .bool s.SaveA.Bold, .bool s.SaveA.Under, .bool s.SaveA.Turn, .slice s.Tabs.A s.Tabs.n s.Tabs.c, i64 s.Limit, .slice s.Back.A s.Back.n s.Back.c], .func (.func 75) #[] #[.pointer (some ⟨b_b, 0, none⟩)]]) 15 Tryz.func74 rfl Tryz.ntmps74 rfl rfl ?_
 have hs1 := St.init w
 refine WC.sr ?_
 refine WL.bx hs1 rfl (fun b2 _ hs3 => ?_)
 refine WL.al hs3 Tryz.zeroValue33 rfl rfl (fun b4 _ hs5 => ?_)
 refine WL.nil ?_
 refine WC.seq (fun K6 hK6 => ?_)
 refine WC.sr ?_
 refine WL.run tbk 1 hs5 [1] rfl ⟨rfl, trivial⟩ ?_
 refine WL.call rfl rfl rfl (Run.call Tryz.call29 rfl rfl rfl) (c_impl_ScrOk s _ (okScrR.st0 f_s hs5)) ?_
 rintro _ whs7 ⟨rfl, hs7⟩
 replace hs7 := hs5.call0 hs7
 refine ⟨_, rfl, ?_⟩
 refine WL.run tbk 1 hs7 [] rfl trivial ?_
 refine WL.nil ?_
 refine WC.cond rfl (fun h8 => ?_) (fun h8 => ?_)
 ·have qh8 := h8
  try simp only [bf, within_iff, within_not] at qh8
  have hk : scrOk s.dat = false := by have h9 := h8; simpa using h9
  refine WC.sr ?_
  refine WL.val rfl rfl rfl (Run.build rfl rfl rfl rfl (built_33)) ?_
  refine WL.st tbk hs7 0 rfl rfl (fun _ hs9 => ?_)
  refine WL.nil ?_
  refine WC.ret ?_
  refine tkR ?_
  clear hK6
  refine retV1 rfl (resV.cellA tbk hs9 0 rfl rfl rfl rfl) ?_
  obtain ⟨L15, hs14, ho16⟩ := ownScrR.fold ⟨0, 0, ⟨0, 0, ⟨_, _, _, _⟩⟩, ⟨0, 0, ⟨_, _, _, _⟩⟩, false, 0, 0, false, ⟨0, 0, false, false, false⟩, 0, 0, false, false, 0, 0, ⟨0, 0, false, false, false⟩, ⟨_, _, _, _⟩, 0, ⟨_, _, _, _⟩⟩ (St.perm (St.perm (St.perm (St.perm hs9 (L' := ([] : Hp) ++ _) (perm_front (A := [_, _]) (List.Perm.refl _))) (L' := ([] : Hp) ++ _) (perm_front (A := ([] : Hp)) (perm_front (A := [_, _]) (List.Perm.refl _)))) (L' := ([] : Hp) ++ _) (perm_front (A := ([] : Hp)) (perm_front (A := ([] : Hp)) (perm_front (A := [_, _]) (List.Perm.refl _))))) (L' := ([] : Hp) ++ _) (perm_front (A := ([] : Hp)) (perm_front (A := ([] : Hp)) (perm_front (A := ([] : Hp)) (perm_front (A := [_, _]) (List.Perm.refl _)))))) (OwnF.nil _ _) (OwnF.nil _ _) (OwnF.nil _ _) (OwnN.nil _ _ _)
  have hs17 := (St.perm (St.perm hs14 (L' := [_] ++ _) (perm_front (A := L15) (perm_front (A := [_]) (List.Perm.refl _)))) (L' := [_] ++ _) (perm_front (A := [_]) (perm_front (A := L15) (List.Perm.refl _))))
  refine ⟨⟨0, 0, ⟨0, 0, ⟨none, 0, 0, []⟩⟩, ⟨0, 0, ⟨none, 0, 0, []⟩⟩, false, 0, 0, false, ⟨0, 0, false, false, false⟩, 0, 0, false, false, 0, 0, ⟨0, 0, false, false, false⟩, ⟨none, 0, 0, []⟩, 0, ⟨none, 0, 0, []⟩⟩, _, rfl, (St.keep1 (St.perm hs17 (L' := L15 ++ _) (perm_front (A := [_, _]) (List.Perm.refl _)))), ?_, ?_⟩
  · exact (by exact ho16)
  · unfold scrEscRes; rw [hk]; rfl
 ·have qh8 := h8
  try simp only [bf, within_iff, within_not] at qh8
  have hk : scrOk s.dat = true := by have h9 := h8; simpa using h9
  have hf := ScrFine.of hk
  refine WC.skip ?_
  refine hK6 _ _ ?_
  refine WC.sr ?_
  refine WL.run tbk 1 hs7 [1] rfl ⟨rfl, trivial⟩ ?_
  refine WL.call rfl rfl rfl (Run.call Tryz.call150 rfl rfl rfl) (c_impl_copyScr s _ (okScrR.st0 f_s hs7) ?_) ?_
  · first | (first | assumption | rfl | omega) | (first | assumption | omega)
  rintro _ whs18 ⟨r19, L1_20, rfl, hs18, ho21, hd22⟩
  replace hs18 := hs7.callF hs18
  refine ⟨_, rfl, ?_⟩
  replace hs18 := St.back [_, _] hs18
  have hcp := hd22
  have hokc : scrOk (ScrR.dat _) = true := (congrArg scrOk hcp).trans hk
  have hsmc : smScr 1048576 (ScrR.dat _) := hcp.symm ▸ hsm
  refine WL.al hs18 Tryz.zeroValue33 rfl rfl (fun b23 _ hs24 => ?_)
  refine WL.st tbk hs24 0 rfl rfl (fun _ hs25 => ?_)
  refine WL.nil ?_
  refine WC.sr ?_
  refine WL.run tbk 1 hs25 [] rfl trivial ?_
  have hF26 : St _ _ ((_, _) :: (L1_20 ++ _)) _ := (St.perm (St.perm hs25 (L' := L1_20 ++ _) (perm_front (A := [_, _, _]) (List.Perm.refl _))) (L' := [_] ++ _) (perm_front (A := L1_20) (List.Perm.refl _)))
  refine WL.call rfl rfl rfl (Run.callC Tryz.call75 rfl rfl rfl) (c_impl_ScrEsc_1 _ r19 _ _ _ _ (St.headP hF26) ho21 (St.ownP hF26) (SlF.st0 f_b hs25) (St.sepP hF26 f_b) (St.nodupP hF26) ?_ ?_) ?_
  · first | (first | assumption | rfl | omega) | (first | assumption | omega)
  · first | (first | assumption | rfl | omega) | (first | assumption | omega)
  rintro _ whs27 ⟨r28, L29, rfl, hs27, ho30, hd31⟩
  replace hs27 := St.lendP hF26 hs27
  refine ⟨_, rfl, ?_⟩
  have hs32 := (St.perm (St.perm (St.perm hs27 (L' := [_] ++ _) (perm_front (A := [_]) (perm_front (A := L29) (perm_front (A := [_]) (List.Perm.refl _))))) (L' := [_] ++ _) (perm_front (A := [_, _]) (perm_front (A := L29) (List.Perm.refl _)))) (L' := [_] ++ _) (perm_front (A := [_, _]) (List.Perm.refl _)))
  refine WL.nil ?_
  refine WC.sr ?_
  refine WL.run tbk 1 hs32 [0] rfl ⟨rfl, trivial⟩ ?_
  refine WL.st tbk hs32 1 rfl rfl (fun _ hs33 => ?_)
  refine WL.nil ?_
  refine WC.ret ?_
  refine retV1 rfl (resV.cellA tbk hs33 1 rfl rfl rfl rfl) ?_
  refine ⟨r28, _, rfl, (St.keep1 (St.perm hs33 (L' := L29 ++ _) (perm_front (A := [_, _, _]) (List.Perm.refl _)))), ?_, ?_⟩
  · exact ho30
  · unfold scrEscRes; rw [hk]; exact hd31.trans (by rw [hcp]; rfl)
theorem c_impl_ScrEsc (s : ScrR) (b : Int) (w : World) (f_s : okScrR 549755813888 w s) (hsm : smScr 1048576 s.dat) :
    Calls Tryz.prog 22 #[.agg #[i64 s.W, i64 s.H, i64 s.Main.W, i64 s.Main.H, .slice s.Main.Cells.A s.Main.Cells.n s.Main.Cells.c, i64 s.Alt.W, i64 s.Alt.H, .slice s.Alt.Cells.A s.Alt.Cells.n s.Alt.Cells.c, .bool s.OnAlt, i64 s.X, i64 s.Y, .bool s.Wrap, i64 s.A.Fg, i64 s.A.Bg, .bool s.A.Bold, .bool s.A.Under, .bool s.A.Turn, i64 s.Top, i64 s.Bot, .bool s.NoWrap, .bool s.Hide, i64 s.SaveX, i64 s.SaveY, i64 s.SaveA.Fg, i64 s.SaveA.Bg, .bool s.SaveA.Bold, .bool s.SaveA.Under, .bool s.SaveA.Turn, .slice s.Tabs.A s.Tabs.n s.Tabs.c, i64 s.Limit, .slice s.Back.A s.Back.n s.Back.c], i64 b] w fun e w' => ∃ r L1, e = .returned (.agg #[i64 r.W, i64 r.H, i64 r.Main.W, i64 r.Main.H, .slice r.Main.Cells.A r.Main.Cells.n r.Main.Cells.c, i64 r.Alt.W, i64 r.Alt.H, .slice r.Alt.Cells.A r.Alt.Cells.n r.Alt.Cells.c, .bool r.OnAlt, i64 r.X, i64 r.Y, .bool r.Wrap, i64 r.A.Fg, i64 r.A.Bg, .bool r.A.Bold, .bool r.A.Under, .bool r.A.Turn, i64 r.Top, i64 r.Bot, .bool r.NoWrap, .bool r.Hide, i64 r.SaveX, i64 r.SaveY, i64 r.SaveA.Fg, i64 r.SaveA.Bg, .bool r.SaveA.Bold, .bool r.SaveA.Under, .bool r.SaveA.Turn, .slice r.Tabs.A r.Tabs.n r.Tabs.c, i64 r.Limit, .slice r.Back.A r.Back.n r.Back.c]) ∧ St w [] L1 w' ∧ ownScrR r L1 ∧ r.dat = scrEscRes s.dat b := by
 have nb_s_Main_Cells := f_s.Main.Cells_n
 have nl_s_Main_Cells := f_s.Main.Cells.len
 have nb_s_Alt_Cells := f_s.Alt.Cells_n
 have nl_s_Alt_Cells := f_s.Alt.Cells.len
 have nb_s_Tabs := f_s.Tabs_n
 have nl_s_Tabs := f_s.Tabs.len
 have nb_s_Back := f_s.Back_n
 have nl_s_Back := f_s.Back.sl.len
 refine enter (vs := [.agg #[i64 s.W, i64 s.H, i64 s.Main.W, i64 s.Main.H, .slice s.Main.Cells.A s.Main.Cells.n s.Main.Cells.c, i64 s.Alt.W, i64 s.Alt.H, .slice s.Alt.Cells.A s.Alt.Cells.n s.Alt.Cells.c, .bool s.OnAlt, i64 s.X, i64 s.Y, .bool s.Wrap, i64 s.A.Fg, i64 s.A.Bg, .bool s.A.Bold, .bool s.A.Under, .bool s.A.Turn, i64 s.Top, i64 s.Bot, .bool s.NoWrap, .bool s.Hide, i64 s.SaveX, i64 s.SaveY, i64 s.SaveA.Fg, i64 s.SaveA.Bg, .bool s.SaveA.Bold, .bool s.SaveA.Under, .bool s.SaveA.Turn, .slice s.Tabs.A s.Tabs.n s.Tabs.c, i64 s.Limit, .slice s.Back.A s.Back.n s.Back.c], i64 b]) 8 Tryz.func22 rfl Tryz.ntmps22 rfl rfl ?_
 have hs1 := St.init w
 refine WC.sr ?_
 refine WL.bx hs1 rfl (fun b2 _ hs3 => ?_)
 refine WL.bx hs3 rfl (fun b4 _ hs5 => ?_)
 refine WL.al hs5 Tryz.zeroValue33 rfl rfl (fun b6 _ hs7 => ?_)
 refine WL.nil ?_
 refine WC.sr ?_
 refine WL.run tbk 1 hs7 [2] rfl ⟨rfl, trivial⟩ ?_
 refine WL.val rfl rfl rfl (Run.makeFunc rfl rfl) ?_
 refine WL.call rfl rfl rfl (Run.call Tryz.call74 rfl rfl rfl) (c_impl_Scr_changed_esc s _ _ _ (okScrR.st0 f_s hs7) (SlF.own1 (hs7.own _ (nthL_mem (i := 1) rfl)).1) ?_) ?_
 · first | assumption | rfl | omega
 rintro _ whs8 ⟨r9, L1_10, rfl, hs8, ho11, hd12⟩
 replace hs8 := hs7.callF hs8
 refine ⟨_, rfl, ?_⟩
 replace hs8 := St.back [_, _, _] hs8
 refine WL.st tbk hs8 0 rfl rfl (fun _ hs13 => ?_)
 refine WL.nil ?_
 refine WC.ret ?_
 refine retV1 rfl (resV.cellA tbk hs13 0 rfl rfl rfl rfl) ?_
 refine ⟨r9, _, rfl, (St.keep1 (St.perm hs13 (L' := L1_10 ++ _) (perm_front (A := [_, _, _]) (List.Perm.refl _)))), ?_, ?_⟩
 · exact ho11
 · exact hd12
end Go.Proofs.YtjmegoiclgancaaGreat
