/- Walks of Go functions, printed by a program (wip/gen). -/
import Derived.Test.YtlmcekfdlgkffaaGreatX4
namespace Go.Proofs.YtlmcekfdlgkffaaGreat
open Go Go.RowKit
set_option linter.unusedVariables false
set_option linter.unusedSimpArgs false
theorem c_impl_Scr_size_at4 (u_0 u_1 u_2 u_3 : Value) (b_s : Nat) (s : ScrR) (L_s : Hp) (w_ : Int) (h_ : Int) (w : World) (hb_s : w.heap[b_s]? = some (Obj.cells (List.toArray [u_0, u_1, u_2, u_3, i64 s.W, i64 s.H, i64 s.Main.W, i64 s.Main.H, .slice s.Main.Cells.A s.Main.Cells.n s.Main.Cells.c, i64 s.Alt.W, i64 s.Alt.H, .slice s.Alt.Cells.A s.Alt.Cells.n s.Alt.Cells.c, .bool s.OnAlt, i64 s.X, i64 s.Y, .bool s.Wrap, i64 s.A.Fg, i64 s.A.Bg, .bool s.A.Bold, .bool s.A.Under, .bool s.A.Turn, i64 s.Top, i64 s.Bot, .bool s.NoWrap, .bool s.Hide, i64 s.SaveX, i64 s.SaveY, i64 s.SaveA.Fg, i64 s.SaveA.Bg, .bool s.SaveA.Bold, .bool s.SaveA.Under, .bool s.SaveA.Turn, .slice s.Tabs.A s.Tabs.n s.Tabs.c, i64 s.Limit, .slice s.Back.A s.Back.n s.Back.c]) 46 (0, 0))) (o_s : ownScrR s L_s) (h_s : ∀ p, p ∈ L_s → w.heap[p.1]? = some p.2) (hd_ : (b_s :: L_s.map (·.1)).Nodup) (hok : scrOk s.dat = true) (hs : isSize w_ h_ = true) (hsm : smScr 1048576 s.dat) :
    Calls Tryz.prog 61 #[.pointer (some ⟨b_s, 4, none⟩), i64 w_, i64 h_] w fun e w' => ∃ r L1, e = .returned (.tuple #[]) ∧ St w (b_s :: L_s.map (·.1)) ([(b_s, Obj.cells (List.toArray [u_0, u_1, u_2, u_3, i64 r.W, i64 r.H, i64 r.Main.W, i64 r.Main.H, .slice r.Main.Cells.A r.Main.Cells.n r.Main.Cells.c, i64 r.Alt.W, i64 r.Alt.H, .slice r.Alt.Cells.A r.Alt.Cells.n r.Alt.Cells.c, .bool r.OnAlt, i64 r.X, i64 r.Y, .bool r.Wrap, i64 r.A.Fg, i64 r.A.Bg, .bool r.A.Bold, .bool r.A.Under, .bool r.A.Turn, i64 r.Top, i64 r.Bot, .bool r.NoWrap, .bool r.Hide, i64 r.SaveX, i64 r.SaveY, i64 r.SaveA.Fg, i64 r.SaveA.Bg, .bool r.SaveA.Bold, .bool r.SaveA.Under, .bool r.SaveA.Turn, .slice r.Tabs.A r.Tabs.n r.Tabs.c, i64 r.Limit, .slice r.Back.A r.Back.n r.Back.c]) 46 (0, 0))] ++ L1) w' ∧ ownScrR r L1 ∧ r.dat = scrSizeOf s.dat w_ h_ := by
 have hsmB : smScr 549755813888 s.dat := smScr_mono hsm (by decide)
 obtain ⟨hb1, hb2, hb3, hb4, hb5, hb6⟩ := scrOk_bnd hok
 obtain ⟨hm, hma⟩ := scrOk_main hok
 simp only [ScrR.dat, GridR.dat, List.length_map] at hb1 hb2 hb3 hb4 hb5 hb6
 obtain ⟨hw1, hh1, hwh, hwh2⟩ := isSize_bnd hs
 have hsg : smGrid 549755813888 (gridNew w_ h_) := gridNew_sm hs (by decide)
 have hsk : smScr 549755813888 (keepRows s.dat (sizeD s.dat h_).toNat) := keepRows_sm hsmB hm (by decide) (by show s.Limit.toNat ≤ _; omega)
 have hn0 : (sizeD s.dat h_).toNat = (max 0 (s.Y - h_ + 1)).toNat := rfl
 refine enter (vs := [.pointer (some ⟨b_s, 4, none⟩), i64 w_, i64 h_]) 112 Tryz.func61 rfl Tryz.ntmps61 rfl rfl ?_
 have hs1 := St.takeP w b_s _ L_s hb_s h_s hd_
 refine WC.sr ?_
 refine WL.run tbk 1 hs1 [] rfl trivial ?_
 refine WL.val rfl rfl rfl (Run.nilCheck rfl rfl) ?_
 refine WL.run tbk 5 hs1 [0] rfl ⟨by omega, by omega, rfl, trivial⟩ ?_
 refine WL.val rfl rfl rfl (Run.asN ((sizeD s.dat h_).toNat) (Run.max rfl rfl rfl) ?_) ?_
 · rw [hn0]; omega
 refine WL.run tbk 1 hs1 [] rfl trivial ?_
 refine WL.nil ?_
 refine WC.seq (fun K2 hK2 => ?_)
 refine WC.sr ?_
 refine WL.run tbk 1 hs1 [] rfl trivial ?_
 refine WL.val rfl rfl rfl (Run.nilCheck rfl rfl) ?_
 refine WL.run tbk 3 hs1 [0] rfl ⟨rfl, trivial⟩ ?_
 refine WL.nil ?_
 refine WC.cond rfl (fun h3 => ?_) (fun h3 => ?_)
 ·have qh3 := h3
  try simp only [bf, within_iff, within_not] at qh3
  have hon : ¬ s.dat.OnAlt = true := by show ¬ s.OnAlt = true; have h9 := h3; simpa using h9
  refine WC.region ?_
  refine WL.run tbk 2 hs1 [] rfl trivial ?_
  have hF4 : St _ _ ((_, _) :: (L_s ++ _)) _ := (St.perm (St.perm hs1 (L' := L_s ++ _) (perm_front (A := [_]) (List.Perm.refl _))) (L' := [_] ++ _) (perm_front (A := L_s) (List.Perm.refl _)))
  refine WL.call rfl rfl rfl (Run.call Tryz.call138 rfl rfl rfl) (c_impl_Scr_keep_at4 _ _ _ _ _ s _ _ _ (St.headP hF4) o_s (St.ownP hF4) (St.nodupP hF4) ?_ ?_ ?_ ?_ ?_) ?_
  · first | (first | assumption | rfl | omega) | (first | assumption | omega | (rw [hs]; exact gridOk_new hs) | (rw [hrM]; assumption) | (rw [hrA]; assumption))
  · first | (first | assumption | rfl | omega) | (first | assumption | omega | (rw [hs]; exact gridOk_new hs) | (rw [hrM]; assumption) | (rw [hrA]; assumption))
  · first | (first | assumption | rfl | omega) | (first | assumption | omega | (rw [hs]; exact gridOk_new hs) | (rw [hrM]; assumption) | (rw [hrA]; assumption))
  · first | (first | assumption | rfl | omega) | (first | assumption | omega | (rw [hs]; exact gridOk_new hs) | (rw [hrM]; assumption) | (rw [hrA]; assumption))
  · first | (first | assumption | rfl | omega) | (first | assumption | omega | (rw [hs]; exact gridOk_new hs) | (rw [hrM]; assumption) | (rw [hrA]; assumption))
  rintro _ whs5 ⟨r6, L7, rfl, hs5, ho8, hd9⟩
  replace hs5 := St.lendP hF4 hs5
  refine ⟨_, rfl, ?_⟩
  have hrM : r6.Main.dat = s.Main.dat := congrArg ScrD.Main hd9
  have hrA : r6.Alt.dat = s.Alt.dat := congrArg ScrD.Alt hd9
  have hrX : r6.X = s.X := congrArg ScrD.X hd9
  have hrY : r6.Y = s.Y := congrArg ScrD.Y hd9
  have hrU : r6.SaveX = s.SaveX := congrArg ScrD.SaveX hd9
  have hrV : r6.SaveY = s.SaveY := congrArg ScrD.SaveY hd9
  refine WL.nil ?_
  refine hK2 _ _ ?_
  refine WC.seq (fun K10 hK10 => ?_)
  refine WC.regionG 24 (fun w' => St _ _ _ w') (fun w' => St _ _ _ w') (fun w' => St _ _ _ w') mixed (St.drew (St.drop hs5 (List.sublist_append_right [_] _))) (St.drew hs5) (St.drew hs5) (fun whs11 hs11 => ?_)
  replace hs11 : St _ _ _ _ := hs11
  refine WG.take 0 rfl (by kernel_rfl) (by kernel_rfl) rfl rfl rfl hs11 (fun w_ hs_ => (Run.move rfl rfl)) ?_
  refine WG.takeB 1 rfl (by kernel_rfl) rfl rfl rfl rfl hs11 (fun w_ => (Run.move rfl rfl)) ?_
  refine WG.take 2 rfl (by kernel_rfl) (by kernel_rfl) rfl rfl rfl hs11 (fun w_ hs_ => (Run.move rfl rfl)) ?_
  refine WG.take 3 rfl (by kernel_rfl) (by kernel_rfl) rfl rfl rfl hs11 (fun w_ hs_ => (Run.move rfl rfl)) ?_
  refine WG.take 5 rfl (by kernel_rfl) (by kernel_rfl) rfl rfl rfl hs11 (fun w_ hs_ => (Run.move rfl rfl)) ?_
  refine WG.take 6 rfl (by kernel_rfl) (by kernel_rfl) rfl rfl rfl hs11 (fun w_ hs_ => (Run.nilCheck rfl rfl)) ?_
  refine WG.take 7 rfl (by kernel_rfl) (by kernel_rfl) rfl rfl rfl hs11 (fun w_ hs_ => (Run.field Tryz.runUnderlying44 rfl rfl rfl Tryz.sizeOf40 rfl)) ?_
  refine WG.take 8 rfl (by kernel_rfl) (by kernel_rfl) rfl rfl rfl hs11 (fun w_ hs_ => (Run.loadLA (hs_ : St _ _ _ _) 0 Tryz.isAgg40 Tryz.sizeOf40 rfl rfl rfl rfl rfl)) ?_
  refine WG.take 9 rfl (by kernel_rfl) (by kernel_rfl) rfl rfl rfl hs11 (fun w_ hs_ => (Run.move rfl rfl)) ?_
  refine WG.take 10 rfl (by kernel_rfl) (by kernel_rfl) rfl rfl rfl hs11 (fun w_ hs_ => (Run.neg rfl rfl ?_)) ?_
  · exact neg_in (by constructor <;> omega)
  refine WG.takeB 12 rfl (by kernel_rfl) rfl rfl rfl rfl hs11 (fun w_ => (Run.move rfl rfl)) ?_
  refine WG.takeB 13 rfl (by kernel_rfl) rfl rfl rfl rfl hs11 (fun w_ => (Run.move rfl rfl)) ?_
  refine WG.takeB 15 rfl (by kernel_rfl) rfl rfl rfl rfl hs11 (fun w_ => (Run.move rfl rfl)) ?_
  refine WG.takeB 16 rfl (by kernel_rfl) rfl rfl rfl rfl hs11 (fun w_ => (Run.nilCheck rfl rfl)) ?_
  refine WG.takeB 17 rfl (by kernel_rfl) rfl rfl rfl rfl hs11 (fun w_ => (Run.field Tryz.runUnderlying44 rfl rfl rfl Tryz.sizeOf40 rfl)) ?_
  refine WG.take 18 rfl (by kernel_rfl) (by kernel_rfl) rfl rfl rfl hs11 (fun w_ hs_ => (Run.loadLA (hs_ : St _ _ _ _) 0 Tryz.isAgg40 Tryz.sizeOf40 rfl rfl rfl rfl rfl)) ?_
  refine WG.takeB 19 rfl (by kernel_rfl) rfl rfl rfl rfl hs11 (fun w_ => (Run.move rfl rfl)) ?_
  refine WG.takeB 20 rfl (by kernel_rfl) rfl rfl rfl rfl hs11 (fun w_ => (Run.neg rfl rfl ?_)) ?_
  · exact neg_in (by constructor <;> omega)
  refine WG.all [4] (by kernel_rfl) rfl (WGs.cons (i := 4) rfl rfl ?_ WGs.nil)
  refine WL.call rfl rfl rfl (Run.call Tryz.call139 rfl rfl rfl) (c_impl_gridOf _ _ _ ?_) ?_
  · first | (first | assumption | rfl | omega) | (first | assumption | omega | (rw [hd9]; exact gridOk_new hs) | (rw [hrM]; assumption) | (rw [hrA]; assumption))
  rintro _ whs13 ⟨r14, L1_15, rfl, hs13, ho16, hd17⟩
  replace hs13 := hs11.callF hs13
  refine ⟨_, rfl, ?_⟩
  replace hs13 := St.back [_] hs13
  have hg27d := hd17
  have hg27 : gridOk _ = true := (congrArg gridOk hd17).trans (gridOk_new hs)
  refine WL.nil ⟨(St.drop (St.perm hs13 (L' := L1_15 ++ _) (perm_front (A := [_]) (List.Perm.refl _))) (List.sublist_append_right L1_15 _)), ?_⟩
  refine WG.all [11] (by kernel_rfl) rfl (WGs.cons (i := 11) rfl rfl ?_ WGs.nil)
  refine WL.call rfl rfl rfl (Run.call Tryz.call140 rfl rfl rfl) (c_impl_Grid_paste r14 r6.Main _ _ _ (ownGridR.ok (B := 549755813888) ho16 (fun p_ hp_ => (hs13.own p_ (List.mem_append_right [_] (List.mem_append_left _ hp_))).1) (by rw [hd17]; assumption)) (ownScrR.ok (B := 549755813888) ho8 (fun p_ hp_ => (hs13.own p_ (List.mem_append_right [_] (List.mem_append_right _ (List.mem_append_left _ hp_)))).1) (by rw [hd9]; assumption)).Main ?_ ?_ ?_ ?_) ?_
  · first | (first | assumption | rfl | omega) | (first | assumption | omega | (rw [hd17]; exact gridOk_new hs) | (rw [hrM]; assumption) | (rw [hrA]; assumption))
  · first | (first | assumption | rfl | omega) | (first | assumption | omega | (rw [hd17]; exact gridOk_new hs) | (rw [hrM]; assumption) | (rw [hrA]; assumption))
  · first | (first | assumption | rfl | omega) | (first | assumption | omega | (rw [hd17]; exact gridOk_new hs) | (rw [hrM]; assumption) | (rw [hrA]; assumption))
  · first | (first | assumption | rfl | omega) | (first | assumption | omega | (rw [hd17]; exact gridOk_new hs) | (rw [hrM]; assumption) | (rw [hrA]; assumption))
  rintro _ whs18 ⟨r19, L1_20, rfl, hs18, ho21, hd22⟩
  replace hs18 := hs13.callF hs18
  refine ⟨_, rfl, ?_⟩
  replace hs18 := St.back [_] hs18
  skip
  refine WL.nil ⟨(St.drop (St.perm (St.drop (St.perm hs18 (L' := L1_20 ++ _) (perm_front (A := [_]) (List.Perm.refl _))) (List.sublist_append_right L1_20 _)) (L' := L1_15 ++ _) (perm_front (A := [_]) (List.Perm.refl _))) (List.sublist_append_right L1_15 _)), ?_⟩
  refine WG.all [14] (by kernel_rfl) rfl (WGs.cons (i := 14) rfl rfl ?_ WGs.nil)
  refine WL.call rfl rfl rfl (Run.call Tryz.call139 rfl rfl rfl) (c_impl_gridOf _ _ _ ?_) ?_
  · first | (first | assumption | rfl | omega) | (first | assumption | omega | (rw [hd22]; exact gridOk_new hs) | (rw [hrM]; assumption) | (rw [hrA]; assumption))
  rintro _ whs23 ⟨r24, L1_25, rfl, hs23, ho26, hd27⟩
  replace hs23 := hs18.callF hs23
  refine ⟨_, rfl, ?_⟩
  replace hs23 := St.back [_] hs23
  have hg37d := hd27
  have hg37 : gridOk _ = true := (congrArg gridOk hd27).trans (gridOk_new hs)
  refine WL.nil ⟨(St.drop (St.perm (St.drop (St.perm (St.drop (St.perm hs23 (L' := L1_25 ++ _) (perm_front (A := [_]) (List.Perm.refl _))) (List.sublist_append_right L1_25 _)) (L' := L1_20 ++ _) (perm_front (A := [_]) (List.Perm.refl _))) (List.sublist_append_right L1_20 _)) (L' := L1_15 ++ _) (perm_front (A := [_]) (List.Perm.refl _))) (List.sublist_append_right L1_15 _)), ?_⟩
  refine WG.all [21] (by kernel_rfl) rfl (WGs.cons (i := 21) rfl rfl ?_ WGs.nil)
  refine WL.call rfl rfl rfl (Run.call Tryz.call140 rfl rfl rfl) (c_impl_Grid_paste r24 r6.Alt _ _ _ (ownGridR.ok (B := 549755813888) ho26 (fun p_ hp_ => (hs23.own p_ (List.mem_append_right [_] (List.mem_append_left _ hp_))).1) (by rw [hd27]; assumption)) (ownScrR.ok (B := 549755813888) ho8 (fun p_ hp_ => (hs23.own p_ (List.mem_append_right [_] (List.mem_append_right _ (List.mem_append_right _ (List.mem_append_right _ (List.mem_append_left _ hp_)))))).1) (by rw [hd9]; assumption)).Alt ?_ ?_ ?_ ?_) ?_
  · first | (first | assumption | rfl | omega) | (first | assumption | omega | (rw [hd27]; exact gridOk_new hs) | (rw [hrM]; assumption) | (rw [hrA]; assumption))
  · first | (first | assumption | rfl | omega) | (first | assumption | omega | (rw [hd27]; exact gridOk_new hs) | (rw [hrM]; assumption) | (rw [hrA]; assumption))
  · first | (first | assumption | rfl | omega) | (first | assumption | omega | (rw [hd27]; exact gridOk_new hs) | (rw [hrM]; assumption) | (rw [hrA]; assumption))
  · first | (first | assumption | rfl | omega) | (first | assumption | omega | (rw [hd27]; exact gridOk_new hs) | (rw [hrM]; assumption) | (rw [hrA]; assumption))
  rintro _ whs28 ⟨r29, L1_30, rfl, hs28, ho31, hd32⟩
  replace hs28 := hs23.callF hs28
  refine ⟨_, rfl, ?_⟩
  replace hs28 := St.back [_] hs28
  skip
  refine WL.nil ⟨(St.drop (St.perm (St.drop (St.perm (St.drop (St.perm (St.drop (St.perm hs28 (L' := L1_30 ++ _) (perm_front (A := [_]) (List.Perm.refl _))) (List.sublist_append_right L1_30 _)) (L' := L1_25 ++ _) (perm_front (A := [_]) (List.Perm.refl _))) (List.sublist_append_right L1_25 _)) (L' := L1_20 ++ _) (perm_front (A := [_]) (List.Perm.refl _))) (List.sublist_append_right L1_20 _)) (L' := L1_15 ++ _) (perm_front (A := [_]) (List.Perm.refl _))) (List.sublist_append_right L1_15 _)), ?_⟩
  refine WG.takeB 22 rfl (by kernel_rfl) rfl rfl rfl rfl (St.drop (St.perm (St.drop (St.perm (St.drop (St.perm (St.drop (St.perm hs28 (L' := L1_30 ++ _) (perm_front (A := [_]) (List.Perm.refl _))) (List.sublist_append_right L1_30 _)) (L' := L1_25 ++ _) (perm_front (A := [_]) (List.Perm.refl _))) (List.sublist_append_right L1_25 _)) (L' := L1_20 ++ _) (perm_front (A := [_]) (List.Perm.refl _))) (List.sublist_append_right L1_20 _)) (L' := L1_15 ++ _) (perm_front (A := [_]) (List.Perm.refl _))) (List.sublist_append_right L1_15 _)) (fun w_ => (Run.nilCheck rfl rfl)) ?_
  refine WG.take 23 rfl (by kernel_rfl) (by kernel_rfl) rfl rfl rfl (St.drop (St.perm (St.drop (St.perm (St.drop (St.perm (St.drop (St.perm hs28 (L' := L1_30 ++ _) (perm_front (A := [_]) (List.Perm.refl _))) (List.sublist_append_right L1_30 _)) (L' := L1_25 ++ _) (perm_front (A := [_]) (List.Perm.refl _))) (List.sublist_append_right L1_25 _)) (L' := L1_20 ++ _) (perm_front (A := [_]) (List.Perm.refl _))) (List.sublist_append_right L1_20 _)) (L' := L1_15 ++ _) (perm_front (A := [_]) (List.Perm.refl _))) (List.sublist_append_right L1_15 _)) (fun w_ hs_ => (Run.field Tryz.runUnderlying44 rfl rfl rfl Tryz.sizeOf40 rfl)) ?_
  refine WG.all [24] (by kernel_rfl) rfl (WGs.consK rfl ?_ WGs.nil)
  refine WL.st tbk hs28 0 rfl rfl (fun _ hs33 => ?_)
  refine WL.nil ⟨(St.drop (St.drop (St.drop (St.drop (St.drop hs33 (List.sublist_append_right [_] _)) (List.sublist_append_right L1_30 _)) (List.sublist_append_right L1_25 _)) (List.sublist_append_right L1_20 _)) (List.sublist_append_right L1_15 _)), ?_⟩
  refine WH.take 25 rfl (by kernel_rfl) rfl rfl rfl (St.drop (St.drop (St.drop (St.drop (St.drop hs33 (List.sublist_append_right [_] _)) (List.sublist_append_right L1_30 _)) (List.sublist_append_right L1_25 _)) (List.sublist_append_right L1_20 _)) (List.sublist_append_right L1_15 _)) (fun w_ hs_ => (Run.nilCheck rfl rfl)) ?_
  refine WH.take 26 rfl (by kernel_rfl) rfl rfl rfl (St.drop (St.drop (St.drop (St.drop (St.drop hs33 (List.sublist_append_right [_] _)) (List.sublist_append_right L1_30 _)) (List.sublist_append_right L1_25 _)) (List.sublist_append_right L1_20 _)) (List.sublist_append_right L1_15 _)) (fun w_ hs_ => (Run.field Tryz.runUnderlying44 rfl rfl rfl Tryz.sizeOf40 rfl)) ?_
  refine WH.all [27] (by kernel_rfl) rfl (WHs.cons (i := 27) rfl ?_ WHs.nil)
  refine WL.st tbk hs33 0 rfl rfl (fun _ hs34 => ?_)
  refine WL.nil ⟨(St.drop (St.drop (St.drop (St.drop (St.drop hs34 (List.sublist_append_right [_] _)) (List.sublist_append_right L1_30 _)) (List.sublist_append_right L1_25 _)) (List.sublist_append_right L1_20 _)) (List.sublist_append_right L1_15 _)), ?_⟩
  refine WH.done (by kernel_rfl) ?_
  refine hK10 _ _ ?_
  refine WC.seq (fun K35 hK35 => ?_)
  refine WC.regionG 22 (fun w' => St _ _ _ w') (fun w' => St _ _ _ w') (fun w' => St _ _ _ w') mixed (St.drew (St.drop hs34 (List.sublist_append_right [_] _))) (St.drew hs34) (St.drew hs34) (fun whs36 hs36 => ?_)
  replace hs36 : St _ _ _ _ := hs36
  refine WG.take 0 rfl (by kernel_rfl) (by kernel_rfl) rfl rfl rfl hs36 (fun w_ hs_ => (Run.move rfl rfl)) ?_
  refine WG.takeB 1 rfl (by kernel_rfl) rfl rfl rfl rfl hs36 (fun w_ => (Run.move rfl rfl)) ?_
  refine WG.takeB 2 rfl (by kernel_rfl) rfl rfl rfl rfl hs36 (fun w_ => (Run.move rfl rfl)) ?_
  refine WG.takeB 3 rfl (by kernel_rfl) rfl rfl rfl rfl hs36 (fun w_ => (Run.move rfl rfl)) ?_
  refine WG.takeB 4 rfl (by kernel_rfl) rfl rfl rfl rfl hs36 (fun w_ => (Run.move rfl rfl)) ?_
  refine WG.take 5 rfl (by kernel_rfl) (by kernel_rfl) rfl rfl rfl hs36 (fun w_ hs_ => (Run.move rfl rfl)) ?_
  refine WG.takeB 6 rfl (by kernel_rfl) rfl rfl rfl rfl hs36 (fun w_ => (Run.move rfl rfl)) ?_
  refine WG.takeB 7 rfl (by kernel_rfl) rfl rfl rfl rfl hs36 (fun w_ => (Run.move rfl rfl)) ?_
  refine WG.takeB 8 rfl (by kernel_rfl) rfl rfl rfl rfl hs36 (fun w_ => (Run.nilCheck rfl rfl)) ?_
  refine WG.takeB 9 rfl (by kernel_rfl) rfl rfl rfl rfl hs36 (fun w_ => (Run.field Tryz.runUnderlying44 rfl rfl rfl Tryz.sizeOf3 rfl)) ?_
  refine WG.take 10 rfl (by kernel_rfl) (by kernel_rfl) rfl rfl rfl hs36 (fun w_ hs_ => (Run.loadL (hs_ : St _ _ _ _) 0 Tryz.isAgg3 rfl rfl rfl rfl)) ?_
  refine WG.takeB 11 rfl (by kernel_rfl) rfl rfl rfl rfl hs36 (fun w_ => (Run.move rfl rfl)) ?_
  refine WG.takeB 12 rfl (by kernel_rfl) rfl rfl rfl rfl hs36 (fun w_ => (Run.sub rfl rfl rfl ?_)) ?_
  · constructor <;> omega
  refine WG.takeB 13 rfl (by kernel_rfl) rfl rfl rfl rfl hs36 (fun w_ => (Run.min rfl rfl rfl)) ?_
  refine WG.takeB 14 rfl (by kernel_rfl) rfl rfl rfl rfl hs36 (fun w_ => (Run.move rfl rfl)) ?_
  refine WG.takeB 15 rfl (by kernel_rfl) rfl rfl rfl rfl hs36 (fun w_ => (Run.nilCheck rfl rfl)) ?_
  refine WG.takeB 16 rfl (by kernel_rfl) rfl rfl rfl rfl hs36 (fun w_ => (Run.field Tryz.runUnderlying44 rfl rfl rfl Tryz.sizeOf3 rfl)) ?_
  refine WG.take 17 rfl (by kernel_rfl) (by kernel_rfl) rfl rfl rfl hs36 (fun w_ hs_ => (Run.loadL (hs_ : St _ _ _ _) 0 Tryz.isAgg3 rfl rfl rfl rfl)) ?_
  refine WG.takeB 18 rfl (by kernel_rfl) rfl rfl rfl rfl hs36 (fun w_ => (Run.move rfl rfl)) ?_
  refine WG.takeB 19 rfl (by kernel_rfl) rfl rfl rfl rfl hs36 (fun w_ => (Run.sub rfl rfl rfl ?_)) ?_
  · constructor <;> omega
  refine WG.takeB 20 rfl (by kernel_rfl) rfl rfl rfl rfl hs36 (fun w_ => (Run.nilCheck rfl rfl)) ?_
  refine WG.take 21 rfl (by kernel_rfl) (by kernel_rfl) rfl rfl rfl hs36 (fun w_ hs_ => (Run.field Tryz.runUnderlying44 rfl rfl rfl Tryz.sizeOf3 rfl)) ?_
  refine WG.all [22] (by kernel_rfl) rfl (WGs.consK rfl ?_ WGs.nil)
  refine WL.st tbk hs36 0 rfl rfl (fun _ hs38 => ?_)
  refine WL.nil ⟨(St.drop hs38 (List.sublist_append_right [_] _)), ?_⟩
  refine WH.take 23 rfl (by kernel_rfl) rfl rfl rfl (St.drop hs38 (List.sublist_append_right [_] _)) (fun w_ hs_ => (Run.nilCheck rfl rfl)) ?_
  refine WH.take 24 rfl (by kernel_rfl) rfl rfl rfl (St.drop hs38 (List.sublist_append_right [_] _)) (fun w_ hs_ => (Run.field Tryz.runUnderlying44 rfl rfl rfl Tryz.sizeOf3 rfl)) ?_
  refine WH.all [25] (by kernel_rfl) rfl (WHs.cons (i := 25) rfl ?_ WHs.nil)
  refine WL.st tbk hs38 0 rfl rfl (fun _ hs39 => ?_)
  refine WL.nil ⟨(St.drop hs39 (List.sublist_append_right [_] _)), ?_⟩
  refine WH.take 26 rfl (by kernel_rfl) rfl rfl rfl (St.drop hs39 (List.sublist_append_right [_] _)) (fun w_ hs_ => (Run.nilCheck rfl rfl)) ?_
  refine WH.take 27 rfl (by kernel_rfl) rfl rfl rfl (St.drop hs39 (List.sublist_append_right [_] _)) (fun w_ hs_ => (Run.field Tryz.runUnderlying44 rfl rfl rfl Tryz.sizeOf3 rfl)) ?_
  refine WH.all [28] (by kernel_rfl) rfl (WHs.cons (i := 28) rfl ?_ WHs.nil)
  refine WL.st tbk hs39 0 rfl rfl (fun _ hs40 => ?_)
  refine WL.nil ⟨(St.drop hs40 (List.sublist_append_right [_] _)), ?_⟩
  refine WH.take 29 rfl (by kernel_rfl) rfl rfl rfl (St.drop hs40 (List.sublist_append_right [_] _)) (fun w_ hs_ => (Run.nilCheck rfl rfl)) ?_
  refine WH.take 30 rfl (by kernel_rfl) rfl rfl rfl (St.drop hs40 (List.sublist_append_right [_] _)) (fun w_ hs_ => (Run.field Tryz.runUnderlying44 rfl rfl rfl Tryz.sizeOf3 rfl)) ?_
  refine WH.all [31] (by kernel_rfl) rfl (WHs.cons (i := 31) rfl ?_ WHs.nil)
  refine WL.st tbk hs40 0 rfl rfl (fun _ hs41 => ?_)
  refine WL.nil ⟨(St.drop hs41 (List.sublist_append_right [_] _)), ?_⟩
  refine WH.take 32 rfl (by kernel_rfl) rfl rfl rfl (St.drop hs41 (List.sublist_append_right [_] _)) (fun w_ hs_ => (Run.nilCheck rfl rfl)) ?_
  refine WH.take 33 rfl (by kernel_rfl) rfl rfl rfl (St.drop hs41 (List.sublist_append_right [_] _)) (fun w_ hs_ => (Run.field Tryz.runUnderlying44 rfl rfl rfl Tryz.sizeOf4 rfl)) ?_
  refine WH.all [34] (by kernel_rfl) rfl (WHs.cons (i := 34) rfl ?_ WHs.nil)
  refine WL.st tbk hs41 0 rfl rfl (fun _ hs42 => ?_)
  refine WL.nil ⟨(St.drop hs42 (List.sublist_append_right [_] _)), ?_⟩
  refine WH.done (by kernel_rfl) ?_
  refine hK35 _ _ ?_
  refine WC.sr ?_
  refine WL.run tbk 6 hs42 [] rfl ⟨by omega, trivial⟩ ?_
  refine WL.call rfl rfl rfl (Run.call Tryz.call141 rfl rfl rfl) (c_impl_tabsOf _ _ ?_) ?_
  · first | (first | assumption | rfl | omega) | (first | assumption | omega | (rw [hd32]; exact gridOk_new hs) | (rw [hrM]; assumption) | (rw [hrA]; assumption))
  rintro _ whs43 ⟨A44, c45, L1_46, rfl, hs43, ho47⟩
  replace hs43 := hs42.callF hs43
  refine ⟨_, rfl, ?_⟩
  replace hs43 := St.back [_] hs43
  refine WL.val rfl rfl rfl (Run.nilCheck rfl rfl) ?_
  refine WL.run tbk 1 hs43 [] rfl trivial ?_
  refine WL.st tbk hs43 0 rfl rfl (fun _ hs48 => ?_)
  refine WL.val rfl rfl rfl (Run.nilCheck rfl rfl) ?_
  refine WL.run tbk 1 hs48 [] rfl trivial ?_
  refine WL.st tbk hs48 0 rfl rfl (fun _ hs49 => ?_)
  refine WL.val rfl rfl rfl (Run.nilCheck rfl rfl) ?_
  refine WL.run tbk 1 hs49 [] rfl trivial ?_
  refine WL.st tbk hs49 0 rfl rfl (fun _ hs50 => ?_)
  refine WL.nil ?_
  refine WC.regionG 18 (fun w' => St _ _ _ w') (fun w' => St _ _ _ w') (fun w' => St _ _ _ w') mixed (St.drew (St.drop hs50 (List.sublist_append_right [_] _))) (St.drew hs50) (St.drew hs50) (fun whs51 hs51 => ?_)
  replace hs51 : St _ _ _ _ := hs51
  refine WG.take 0 rfl (by kernel_rfl) (by kernel_rfl) rfl rfl rfl hs51 (fun w_ hs_ => (Run.move rfl rfl)) ?_
  refine WG.takeB 1 rfl (by kernel_rfl) rfl rfl rfl rfl hs51 (fun w_ => (Run.move rfl rfl)) ?_
  refine WG.take 2 rfl (by kernel_rfl) (by kernel_rfl) rfl rfl rfl hs51 (fun w_ hs_ => (Run.move rfl rfl)) ?_
  refine WG.take 3 rfl (by kernel_rfl) (by kernel_rfl) rfl rfl rfl hs51 (fun w_ hs_ => (Run.nilCheck rfl rfl)) ?_
  refine WG.take 4 rfl (by kernel_rfl) (by kernel_rfl) rfl rfl rfl hs51 (fun w_ hs_ => (Run.field Tryz.runUnderlying44 rfl rfl rfl Tryz.sizeOf3 rfl)) ?_
  refine WG.take 5 rfl (by kernel_rfl) (by kernel_rfl) rfl rfl rfl hs51 (fun w_ hs_ => (Run.loadL (hs_ : St _ _ _ _) 0 Tryz.isAgg3 rfl rfl rfl rfl)) ?_
  refine WG.take 6 rfl (by kernel_rfl) (by kernel_rfl) rfl rfl rfl hs51 (fun w_ hs_ => (Run.move rfl rfl)) ?_
  refine WG.take 7 rfl (by kernel_rfl) (by kernel_rfl) rfl rfl rfl hs51 (fun w_ hs_ => (Run.sub rfl rfl rfl ?_)) ?_
  · constructor <;> omega
  refine WG.take 8 rfl (by kernel_rfl) (by kernel_rfl) rfl rfl rfl hs51 (fun w_ hs_ => (Run.min rfl rfl rfl)) ?_
  refine WG.takeB 9 rfl (by kernel_rfl) rfl rfl rfl rfl hs51 (fun w_ => (Run.move rfl rfl)) ?_
  refine WG.takeB 10 rfl (by kernel_rfl) rfl rfl rfl rfl hs51 (fun w_ => (Run.nilCheck rfl rfl)) ?_
  refine WG.takeB 11 rfl (by kernel_rfl) rfl rfl rfl rfl hs51 (fun w_ => (Run.field Tryz.runUnderlying44 rfl rfl rfl Tryz.sizeOf3 rfl)) ?_
  refine WG.take 12 rfl (by kernel_rfl) (by kernel_rfl) rfl rfl rfl hs51 (fun w_ hs_ => (Run.loadL (hs_ : St _ _ _ _) 0 Tryz.isAgg3 rfl rfl rfl rfl)) ?_
  refine WG.takeB 13 rfl (by kernel_rfl) rfl rfl rfl rfl hs51 (fun w_ => (Run.move rfl rfl)) ?_
  refine WG.takeB 14 rfl (by kernel_rfl) rfl rfl rfl rfl hs51 (fun w_ => (Run.sub rfl rfl rfl ?_)) ?_
  · constructor <;> omega
  refine WG.takeB 15 rfl (by kernel_rfl) rfl rfl rfl rfl hs51 (fun w_ => (Run.min rfl rfl rfl)) ?_
  refine WG.takeB 16 rfl (by kernel_rfl) rfl rfl rfl rfl hs51 (fun w_ => (Run.nilCheck rfl rfl)) ?_
  refine WG.take 17 rfl (by kernel_rfl) (by kernel_rfl) rfl rfl rfl hs51 (fun w_ hs_ => (Run.field Tryz.runUnderlying44 rfl rfl rfl Tryz.sizeOf3 rfl)) ?_
  refine WG.all [18] (by kernel_rfl) rfl (WGs.consK rfl ?_ WGs.nil)
  refine WL.st tbk hs51 0 rfl rfl (fun _ hs53 => ?_)
  refine WL.nil ⟨(St.drop hs53 (List.sublist_append_right [_] _)), ?_⟩
  refine WH.take 19 rfl (by kernel_rfl) rfl rfl rfl (St.drop hs53 (List.sublist_append_right [_] _)) (fun w_ hs_ => (Run.nilCheck rfl rfl)) ?_
  refine WH.take 20 rfl (by kernel_rfl) rfl rfl rfl (St.drop hs53 (List.sublist_append_right [_] _)) (fun w_ hs_ => (Run.field Tryz.runUnderlying44 rfl rfl rfl Tryz.sizeOf3 rfl)) ?_
  refine WH.all [21] (by kernel_rfl) rfl (WHs.cons (i := 21) rfl ?_ WHs.nil)
  refine WL.st tbk hs53 0 rfl rfl (fun _ hs54 => ?_)
  refine WL.nil ⟨(St.drop hs54 (List.sublist_append_right [_] _)), ?_⟩
  refine WH.done (by kernel_rfl) ?_
  refine retK0 rfl ?_
  obtain ⟨L55, L56, L57, L58, hs63, ho59, ho60, ho61, ho62⟩ := ownScrR.open_ (St.perm hs54 (L' := L7 ++ _) (perm_front (A := [_]) (perm_front (A := L1_46) (perm_front (A := L1_30) (perm_front (A := L1_25) (perm_front (A := L1_20) (perm_front (A := L1_15) (List.Perm.refl _)))))))) ho8
  have hs64 := (St.perm hs63 (L' := [_] ++ _) (perm_front (A := L55) (perm_front (A := L56) (perm_front (A := L57) (perm_front (A := L58) (List.Perm.refl _))))))
  obtain ⟨L66, hs65, ho67⟩ := ownScrR.fold ⟨0, 0, ⟨0, 0, ⟨_, _, _, _⟩⟩, ⟨0, 0, ⟨_, _, _, _⟩⟩, false, 0, 0, false, ⟨0, 0, false, false, false⟩, 0, 0, false, false, 0, 0, ⟨0, 0, false, false, false⟩, ⟨_, _, _, _⟩, 0, ⟨_, _, _, _⟩⟩ (St.perm (St.perm (St.perm (St.perm hs64 (L' := L58 ++ _) (perm_front (A := [_]) (perm_front (A := L55) (perm_front (A := L56) (perm_front (A := L57) (List.Perm.refl _)))))) (L' := L1_46 ++ _) (perm_front (A := L58) (perm_front (A := [_]) (perm_front (A := L55) (perm_front (A := L56) (perm_front (A := L57) (List.Perm.refl _))))))) (L' := L1_30 ++ _) (perm_front (A := L1_46) (perm_front (A := L58) (perm_front (A := [_]) (perm_front (A := L55) (perm_front (A := L56) (perm_front (A := L57) (List.Perm.refl _)))))))) (L' := L1_20 ++ _) (perm_front (A := L1_30) (perm_front (A := L1_46) (perm_front (A := L58) (perm_front (A := [_]) (perm_front (A := L55) (perm_front (A := L56) (perm_front (A := L57) (perm_front (A := L1_25) (List.Perm.refl _)))))))))) ho21 ho31 ho47 ho62
  have hs68 := (St.perm hs65 (L' := [_] ++ _) (perm_front (A := L66) (List.Perm.refl _)))
  refine ⟨⟨w_, h_, ⟨r19.W, r19.H, SlD.of ho21⟩, ⟨r29.W, r29.H, SlD.of ho31⟩, r6.OnAlt, (min r6.X (w_ - (1))), (r6.Y - (((sizeD s.dat h_).toNat : Nat) : Int)), false, ⟨r6.A.Fg, r6.A.Bg, r6.A.Bold, r6.A.Under, r6.A.Turn⟩, (0), (h_ - (1)), r6.NoWrap, r6.Hide, (min r6.SaveX (w_ - (1))), (min r6.SaveY (h_ - (1))), ⟨r6.SaveA.Fg, r6.SaveA.Bg, r6.SaveA.Bold, r6.SaveA.Under, r6.SaveA.Turn⟩, SlD.of ho47, r6.Limit, SlD.ofN ho62⟩, _, rfl, St.keepP (L1 := L66) (St.perm (St.perm hs68 (L' := L66 ++ _) (perm_front (A := [_]) (List.Perm.refl _))) (L' := [_] ++ _) (perm_front (A := L66) (List.Perm.refl _))), (by exact ho67), ?_⟩
  · rw [show scrSizeOf s.dat w_ h_ = { r6.dat with W := w_, H := h_, Main := gPaste (gridNew w_ h_) s.dat.Main 0 (-sizeD s.dat h_), Alt := gPaste (gridNew w_ h_) s.dat.Alt 0 (-sizeD s.dat h_), X := min s.dat.X (w_ - 1), Y := s.dat.Y - sizeD s.dat h_, Wrap := false, Top := 0, Bot := h_ - 1, Tabs := tabsL w_, SaveX := min s.dat.SaveX (w_ - 1), SaveY := min s.dat.SaveY (h_ - 1) } from by unfold scrSizeOf scrSize1; rw [if_neg hon, hd9]]; simp only [ScrR.dat, hrX, hrY, hrU, hrV, sizeD_nat]; refine ScrD.ext' rfl rfl ?_ ?_ rfl rfl rfl rfl rfl rfl rfl rfl rfl rfl rfl rfl rfl rfl rfl; exact (hd22).trans (by rw [hg27d, hrM, sizeD_nat]; rfl); exact (hd32).trans (by rw [hg37d, hrA, sizeD_nat]; rfl)
 ·have qh3 := h3
  try simp only [bf, within_iff, within_not] at qh3
  have hon : s.dat.OnAlt = true := by show s.OnAlt = true; have h9 := h3; simpa using h9
  refine WC.skip ?_
  refine hK2 _ _ ?_
  refine WC.seq (fun K69 hK69 => ?_)
  refine WC.regionG 24 (fun w' => St _ _ _ w') (fun w' => St _ _ _ w') (fun w' => St _ _ _ w') mixed (St.drew (St.drop hs1 (List.sublist_append_right [_] _))) (St.drew hs1) (St.drew hs1) (fun whs70 hs70 => ?_)
  replace hs70 : St _ _ _ _ := hs70
  refine WG.take 0 rfl (by kernel_rfl) (by kernel_rfl) rfl rfl rfl hs70 (fun w_ hs_ => (Run.move rfl rfl)) ?_
  refine WG.takeB 1 rfl (by kernel_rfl) rfl rfl rfl rfl hs70 (fun w_ => (Run.move rfl rfl)) ?_
  refine WG.take 2 rfl (by kernel_rfl) (by kernel_rfl) rfl rfl rfl hs70 (fun w_ hs_ => (Run.move rfl rfl)) ?_
  refine WG.take 3 rfl (by kernel_rfl) (by kernel_rfl) rfl rfl rfl hs70 (fun w_ hs_ => (Run.move rfl rfl)) ?_
  refine WG.take 5 rfl (by kernel_rfl) (by kernel_rfl) rfl rfl rfl hs70 (fun w_ hs_ => (Run.move rfl rfl)) ?_
  refine WG.take 6 rfl (by kernel_rfl) (by kernel_rfl) rfl rfl rfl hs70 (fun w_ hs_ => (Run.nilCheck rfl rfl)) ?_
  refine WG.take 7 rfl (by kernel_rfl) (by kernel_rfl) rfl rfl rfl hs70 (fun w_ hs_ => (Run.field Tryz.runUnderlying44 rfl rfl rfl Tryz.sizeOf40 rfl)) ?_
  refine WG.take 8 rfl (by kernel_rfl) (by kernel_rfl) rfl rfl rfl hs70 (fun w_ hs_ => (Run.loadLA (hs_ : St _ _ _ _) 0 Tryz.isAgg40 Tryz.sizeOf40 rfl rfl rfl rfl rfl)) ?_
  refine WG.take 9 rfl (by kernel_rfl) (by kernel_rfl) rfl rfl rfl hs70 (fun w_ hs_ => (Run.move rfl rfl)) ?_
  refine WG.take 10 rfl (by kernel_rfl) (by kernel_rfl) rfl rfl rfl hs70 (fun w_ hs_ => (Run.neg rfl rfl ?_)) ?_
  · exact neg_in (by constructor <;> omega)
  refine WG.takeB 12 rfl (by kernel_rfl) rfl rfl rfl rfl hs70 (fun w_ => (Run.move rfl rfl)) ?_
  refine WG.takeB 13 rfl (by kernel_rfl) rfl rfl rfl rfl hs70 (fun w_ => (Run.move rfl rfl)) ?_
  refine WG.takeB 15 rfl (by kernel_rfl) rfl rfl rfl rfl hs70 (fun w_ => (Run.move rfl rfl)) ?_
  refine WG.takeB 16 rfl (by kernel_rfl) rfl rfl rfl rfl hs70 (fun w_ => (Run.nilCheck rfl rfl)) ?_
  refine WG.takeB 17 rfl (by kernel_rfl) rfl rfl rfl rfl hs70 (fun w_ => (Run.field Tryz.runUnderlying44 rfl rfl rfl Tryz.sizeOf40 rfl)) ?_
  refine WG.take 18 rfl (by kernel_rfl) (by kernel_rfl) rfl rfl rfl hs70 (fun w_ hs_ => (Run.loadLA (hs_ : St _ _ _ _) 0 Tryz.isAgg40 Tryz.sizeOf40 rfl rfl rfl rfl rfl)) ?_
  refine WG.takeB 19 rfl (by kernel_rfl) rfl rfl rfl rfl hs70 (fun w_ => (Run.move rfl rfl)) ?_
  refine WG.takeB 20 rfl (by kernel_rfl) rfl rfl rfl rfl hs70 (fun w_ => (Run.neg rfl rfl ?_)) ?_
  · exact neg_in (by constructor <;> omega)
  refine WG.all [4] (by kernel_rfl) rfl (WGs.cons (i := 4) rfl rfl ?_ WGs.nil)
  refine WL.call rfl rfl rfl (Run.call Tryz.call139 rfl rfl rfl) (c_impl_gridOf _ _ _ ?_) ?_
  · first | (first | assumption | rfl | omega) | (first | assumption | omega | (rw [hd32]; exact gridOk_new hs) | (rw [hrM]; assumption) | (rw [hrA]; assumption))
  rintro _ whs72 ⟨r73, L1_74, rfl, hs72, ho75, hd76⟩
  replace hs72 := hs70.callF hs72
  refine ⟨_, rfl, ?_⟩
  replace hs72 := St.back [_] hs72
  have hg27d := hd76
  have hg27 : gridOk _ = true := (congrArg gridOk hd76).trans (gridOk_new hs)
  refine WL.nil ⟨(St.drop (St.perm hs72 (L' := L1_74 ++ _) (perm_front (A := [_]) (List.Perm.refl _))) (List.sublist_append_right L1_74 _)), ?_⟩
  refine WG.all [11] (by kernel_rfl) rfl (WGs.cons (i := 11) rfl rfl ?_ WGs.nil)
  refine WL.call rfl rfl rfl (Run.call Tryz.call140 rfl rfl rfl) (c_impl_Grid_paste r73 s.Main _ _ _ (ownGridR.ok (B := 549755813888) ho75 (fun p_ hp_ => (hs72.own p_ (List.mem_append_right [_] (List.mem_append_left _ hp_))).1) (by rw [hd76]; assumption)) (ownScrR.ok (B := 549755813888) o_s (fun p_ hp_ => (hs72.own p_ (List.mem_append_right [_] (List.mem_append_right _ (List.mem_append_left _ hp_)))).1) (by assumption)).Main ?_ ?_ ?_ ?_) ?_
  · first | (first | assumption | rfl | omega) | (first | assumption | omega | (rw [hd76]; exact gridOk_new hs) | (rw [hrM]; assumption) | (rw [hrA]; assumption))
  · first | (first | assumption | rfl | omega) | (first | assumption | omega | (rw [hd76]; exact gridOk_new hs) | (rw [hrM]; assumption) | (rw [hrA]; assumption))
  · first | (first | assumption | rfl | omega) | (first | assumption | omega | (rw [hd76]; exact gridOk_new hs) | (rw [hrM]; assumption) | (rw [hrA]; assumption))
  · first | (first | assumption | rfl | omega) | (first | assumption | omega | (rw [hd76]; exact gridOk_new hs) | (rw [hrM]; assumption) | (rw [hrA]; assumption))
  rintro _ whs77 ⟨r78, L1_79, rfl, hs77, ho80, hd81⟩
  replace hs77 := hs72.callF hs77
  refine ⟨_, rfl, ?_⟩
  replace hs77 := St.back [_] hs77
  skip
  refine WL.nil ⟨(St.drop (St.perm (St.drop (St.perm hs77 (L' := L1_79 ++ _) (perm_front (A := [_]) (List.Perm.refl _))) (List.sublist_append_right L1_79 _)) (L' := L1_74 ++ _) (perm_front (A := [_]) (List.Perm.refl _))) (List.sublist_append_right L1_74 _)), ?_⟩
  refine WG.all [14] (by kernel_rfl) rfl (WGs.cons (i := 14) rfl rfl ?_ WGs.nil)
  refine WL.call rfl rfl rfl (Run.call Tryz.call139 rfl rfl rfl) (c_impl_gridOf _ _ _ ?_) ?_
  · first | (first | assumption | rfl | omega) | (first | assumption | omega | (rw [hd81]; exact gridOk_new hs) | (rw [hrM]; assumption) | (rw [hrA]; assumption))
  rintro _ whs82 ⟨r83, L1_84, rfl, hs82, ho85, hd86⟩
  replace hs82 := hs77.callF hs82
  refine ⟨_, rfl, ?_⟩
  replace hs82 := St.back [_] hs82
  have hg37d := hd86
  have hg37 : gridOk _ = true := (congrArg gridOk hd86).trans (gridOk_new hs)
  refine WL.nil ⟨(St.drop (St.perm (St.drop (St.perm (St.drop (St.perm hs82 (L' := L1_84 ++ _) (perm_front (A := [_]) (List.Perm.refl _))) (List.sublist_append_right L1_84 _)) (L' := L1_79 ++ _) (perm_front (A := [_]) (List.Perm.refl _))) (List.sublist_append_right L1_79 _)) (L' := L1_74 ++ _) (perm_front (A := [_]) (List.Perm.refl _))) (List.sublist_append_right L1_74 _)), ?_⟩
  refine WG.all [21] (by kernel_rfl) rfl (WGs.cons (i := 21) rfl rfl ?_ WGs.nil)
  refine WL.call rfl rfl rfl (Run.call Tryz.call140 rfl rfl rfl) (c_impl_Grid_paste r83 s.Alt _ _ _ (ownGridR.ok (B := 549755813888) ho85 (fun p_ hp_ => (hs82.own p_ (List.mem_append_right [_] (List.mem_append_left _ hp_))).1) (by rw [hd86]; assumption)) (ownScrR.ok (B := 549755813888) o_s (fun p_ hp_ => (hs82.own p_ (List.mem_append_right [_] (List.mem_append_right _ (List.mem_append_right _ (List.mem_append_right _ (List.mem_append_left _ hp_)))))).1) (by assumption)).Alt ?_ ?_ ?_ ?_) ?_
  · first | (first | assumption | rfl | omega) | (first | assumption | omega | (rw [hd86]; exact gridOk_new hs) | (rw [hrM]; assumption) | (rw [hrA]; assumption))
  · first | (first | assumption | rfl | omega) | (first | assumption | omega | (rw [hd86]; exact gridOk_new hs) | (rw [hrM]; assumption) | (rw [hrA]; assumption))
  · first | (first | assumption | rfl | omega) | (first | assumption | omega | (rw [hd86]; exact gridOk_new hs) | (rw [hrM]; assumption) | (rw [hrA]; assumption))
  · first | (first | assumption | rfl | omega) | (first | assumption | omega | (rw [hd86]; exact gridOk_new hs) | (rw [hrM]; assumption) | (rw [hrA]; assumption))
  rintro _ whs87 ⟨r88, L1_89, rfl, hs87, ho90, hd91⟩
  replace hs87 := hs82.callF hs87
  refine ⟨_, rfl, ?_⟩
  replace hs87 := St.back [_] hs87
  skip
  refine WL.nil ⟨(St.drop (St.perm (St.drop (St.perm (St.drop (St.perm (St.drop (St.perm hs87 (L' := L1_89 ++ _) (perm_front (A := [_]) (List.Perm.refl _))) (List.sublist_append_right L1_89 _)) (L' := L1_84 ++ _) (perm_front (A := [_]) (List.Perm.refl _))) (List.sublist_append_right L1_84 _)) (L' := L1_79 ++ _) (perm_front (A := [_]) (List.Perm.refl _))) (List.sublist_append_right L1_79 _)) (L' := L1_74 ++ _) (perm_front (A := [_]) (List.Perm.refl _))) (List.sublist_append_right L1_74 _)), ?_⟩
  refine WG.takeB 22 rfl (by kernel_rfl) rfl rfl rfl rfl (St.drop (St.perm (St.drop (St.perm (St.drop (St.perm (St.drop (St.perm hs87 (L' := L1_89 ++ _) (perm_front (A := [_]) (List.Perm.refl _))) (List.sublist_append_right L1_89 _)) (L' := L1_84 ++ _) (perm_front (A := [_]) (List.Perm.refl _))) (List.sublist_append_right L1_84 _)) (L' := L1_79 ++ _) (perm_front (A := [_]) (List.Perm.refl _))) (List.sublist_append_right L1_79 _)) (L' := L1_74 ++ _) (perm_front (A := [_]) (List.Perm.refl _))) (List.sublist_append_right L1_74 _)) (fun w_ => (Run.nilCheck rfl rfl)) ?_
  refine WG.take 23 rfl (by kernel_rfl) (by kernel_rfl) rfl rfl rfl (St.drop (St.perm (St.drop (St.perm (St.drop (St.perm (St.drop (St.perm hs87 (L' := L1_89 ++ _) (perm_front (A := [_]) (List.Perm.refl _))) (List.sublist_append_right L1_89 _)) (L' := L1_84 ++ _) (perm_front (A := [_]) (List.Perm.refl _))) (List.sublist_append_right L1_84 _)) (L' := L1_79 ++ _) (perm_front (A := [_]) (List.Perm.refl _))) (List.sublist_append_right L1_79 _)) (L' := L1_74 ++ _) (perm_front (A := [_]) (List.Perm.refl _))) (List.sublist_append_right L1_74 _)) (fun w_ hs_ => (Run.field Tryz.runUnderlying44 rfl rfl rfl Tryz.sizeOf40 rfl)) ?_
  refine WG.all [24] (by kernel_rfl) rfl (WGs.consK rfl ?_ WGs.nil)
  refine WL.st tbk hs87 0 rfl rfl (fun _ hs92 => ?_)
  refine WL.nil ⟨(St.drop (St.drop (St.drop (St.drop (St.drop hs92 (List.sublist_append_right [_] _)) (List.sublist_append_right L1_89 _)) (List.sublist_append_right L1_84 _)) (List.sublist_append_right L1_79 _)) (List.sublist_append_right L1_74 _)), ?_⟩
  refine WH.take 25 rfl (by kernel_rfl) rfl rfl rfl (St.drop (St.drop (St.drop (St.drop (St.drop hs92 (List.sublist_append_right [_] _)) (List.sublist_append_right L1_89 _)) (List.sublist_append_right L1_84 _)) (List.sublist_append_right L1_79 _)) (List.sublist_append_right L1_74 _)) (fun w_ hs_ => (Run.nilCheck rfl rfl)) ?_
  refine WH.take 26 rfl (by kernel_rfl) rfl rfl rfl (St.drop (St.drop (St.drop (St.drop (St.drop hs92 (List.sublist_append_right [_] _)) (List.sublist_append_right L1_89 _)) (List.sublist_append_right L1_84 _)) (List.sublist_append_right L1_79 _)) (List.sublist_append_right L1_74 _)) (fun w_ hs_ => (Run.field Tryz.runUnderlying44 rfl rfl rfl Tryz.sizeOf40 rfl)) ?_
  refine WH.all [27] (by kernel_rfl) rfl (WHs.cons (i := 27) rfl ?_ WHs.nil)
  refine WL.st tbk hs92 0 rfl rfl (fun _ hs93 => ?_)
  refine WL.nil ⟨(St.drop (St.drop (St.drop (St.drop (St.drop hs93 (List.sublist_append_right [_] _)) (List.sublist_append_right L1_89 _)) (List.sublist_append_right L1_84 _)) (List.sublist_append_right L1_79 _)) (List.sublist_append_right L1_74 _)), ?_⟩
  refine WH.done (by kernel_rfl) ?_
  refine hK69 _ _ ?_
  refine WC.seq (fun K94 hK94 => ?_)
  refine WC.regionG 22 (fun w' => St _ _ _ w') (fun w' => St _ _ _ w') (fun w' => St _ _ _ w') mixed (St.drew (St.drop hs93 (List.sublist_append_right [_] _))) (St.drew hs93) (St.drew hs93) (fun whs95 hs95 => ?_)
  replace hs95 : St _ _ _ _ := hs95
  refine WG.take 0 rfl (by kernel_rfl) (by kernel_rfl) rfl rfl rfl hs95 (fun w_ hs_ => (Run.move rfl rfl)) ?_
  refine WG.takeB 1 rfl (by kernel_rfl) rfl rfl rfl rfl hs95 (fun w_ => (Run.move rfl rfl)) ?_
  refine WG.takeB 2 rfl (by kernel_rfl) rfl rfl rfl rfl hs95 (fun w_ => (Run.move rfl rfl)) ?_
  refine WG.takeB 3 rfl (by kernel_rfl) rfl rfl rfl rfl hs95 (fun w_ => (Run.move rfl rfl)) ?_
  refine WG.takeB 4 rfl (by kernel_rfl) rfl rfl rfl rfl hs95 (fun w_ => (Run.move rfl rfl)) ?_
  refine WG.take 5 rfl (by kernel_rfl) (by kernel_rfl) rfl rfl rfl hs95 (fun w_ hs_ => (Run.move rfl rfl)) ?_
  refine WG.takeB 6 rfl (by kernel_rfl) rfl rfl rfl rfl hs95 (fun w_ => (Run.move rfl rfl)) ?_
  refine WG.takeB 7 rfl (by kernel_rfl) rfl rfl rfl rfl hs95 (fun w_ => (Run.move rfl rfl)) ?_
  refine WG.takeB 8 rfl (by kernel_rfl) rfl rfl rfl rfl hs95 (fun w_ => (Run.nilCheck rfl rfl)) ?_
  refine WG.takeB 9 rfl (by kernel_rfl) rfl rfl rfl rfl hs95 (fun w_ => (Run.field Tryz.runUnderlying44 rfl rfl rfl Tryz.sizeOf3 rfl)) ?_
  refine WG.take 10 rfl (by kernel_rfl) (by kernel_rfl) rfl rfl rfl hs95 (fun w_ hs_ => (Run.loadL (hs_ : St _ _ _ _) 0 Tryz.isAgg3 rfl rfl rfl rfl)) ?_
  refine WG.takeB 11 rfl (by kernel_rfl) rfl rfl rfl rfl hs95 (fun w_ => (Run.move rfl rfl)) ?_
  refine WG.takeB 12 rfl (by kernel_rfl) rfl rfl rfl rfl hs95 (fun w_ => (Run.sub rfl rfl rfl ?_)) ?_
  · constructor <;> omega
  refine WG.takeB 13 rfl (by kernel_rfl) rfl rfl rfl rfl hs95 (fun w_ => (Run.min rfl rfl rfl)) ?_
  refine WG.takeB 14 rfl (by kernel_rfl) rfl rfl rfl rfl hs95 (fun w_ => (Run.move rfl rfl)) ?_
  refine WG.takeB 15 rfl (by kernel_rfl) rfl rfl rfl rfl hs95 (fun w_ => (Run.nilCheck rfl rfl)) ?_
  refine WG.takeB 16 rfl (by kernel_rfl) rfl rfl rfl rfl hs95 (fun w_ => (Run.field Tryz.runUnderlying44 rfl rfl rfl Tryz.sizeOf3 rfl)) ?_
  refine WG.take 17 rfl (by kernel_rfl) (by kernel_rfl) rfl rfl rfl hs95 (fun w_ hs_ => (Run.loadL (hs_ : St _ _ _ _) 0 Tryz.isAgg3 rfl rfl rfl rfl)) ?_
  refine WG.takeB 18 rfl (by kernel_rfl) rfl rfl rfl rfl hs95 (fun w_ => (Run.move rfl rfl)) ?_
  refine WG.takeB 19 rfl (by kernel_rfl) rfl rfl rfl rfl hs95 (fun w_ => (Run.sub rfl rfl rfl ?_)) ?_
  · constructor <;> omega
  refine WG.takeB 20 rfl (by kernel_rfl) rfl rfl rfl rfl hs95 (fun w_ => (Run.nilCheck rfl rfl)) ?_
  refine WG.take 21 rfl (by kernel_rfl) (by kernel_rfl) rfl rfl rfl hs95 (fun w_ hs_ => (Run.field Tryz.runUnderlying44 rfl rfl rfl Tryz.sizeOf3 rfl)) ?_
  refine WG.all [22] (by kernel_rfl) rfl (WGs.consK rfl ?_ WGs.nil)
  refine WL.st tbk hs95 0 rfl rfl (fun _ hs97 => ?_)
  refine WL.nil ⟨(St.drop hs97 (List.sublist_append_right [_] _)), ?_⟩
  refine WH.take 23 rfl (by kernel_rfl) rfl rfl rfl (St.drop hs97 (List.sublist_append_right [_] _)) (fun w_ hs_ => (Run.nilCheck rfl rfl)) ?_
  refine WH.take 24 rfl (by kernel_rfl) rfl rfl rfl (St.drop hs97 (List.sublist_append_right [_] _)) (fun w_ hs_ => (Run.field Tryz.runUnderlying44 rfl rfl rfl Tryz.sizeOf3 rfl)) ?_
  refine WH.all [25] (by kernel_rfl) rfl (WHs.cons (i := 25) rfl ?_ WHs.nil)
  refine WL.st tbk hs97 0 rfl rfl (fun _ hs98 => ?_)
  refine WL.nil ⟨(St.drop hs98 (List.sublist_append_right [_] _)), ?_⟩
  refine WH.take 26 rfl (by kernel_rfl) rfl rfl rfl (St.drop hs98 (List.sublist_append_right [_] _)) (fun w_ hs_ => (Run.nilCheck rfl rfl)) ?_
  refine WH.take 27 rfl (by kernel_rfl) rfl rfl rfl (St.drop hs98 (List.sublist_append_right [_] _)) (fun w_ hs_ => (Run.field Tryz.runUnderlying44 rfl rfl rfl Tryz.sizeOf3 rfl)) ?_
  refine WH.all [28] (by kernel_rfl) rfl (WHs.cons (i := 28) rfl ?_ WHs.nil)
  refine WL.st tbk hs98 0 rfl rfl (fun _ hs99 => ?_)
  refine WL.nil ⟨(St.drop hs99 (List.sublist_append_right [_] _)), ?_⟩
  refine WH.take 29 rfl (by kernel_rfl) rfl rfl rfl (St.drop hs99 (List.sublist_append_right [_] _)) (fun w_ hs_ => (Run.nilCheck rfl rfl)) ?_
  refine WH.take 30 rfl (by kernel_rfl) rfl rfl rfl (St.drop hs99 (List.sublist_append_right [_] _)) (fun w_ hs_ => (Run.field Tryz.runUnderlying44 rfl rfl rfl Tryz.sizeOf3 rfl)) ?_
  refine WH.all [31] (by kernel_rfl) rfl (WHs.cons (i := 31) rfl ?_ WHs.nil)
  refine WL.st tbk hs99 0 rfl rfl (fun _ hs100 => ?_)
  refine WL.nil ⟨(St.drop hs100 (List.sublist_append_right [_] _)), ?_⟩
  refine WH.take 32 rfl (by kernel_rfl) rfl rfl rfl (St.drop hs100 (List.sublist_append_right [_] _)) (fun w_ hs_ => (Run.nilCheck rfl rfl)) ?_
  refine WH.take 33 rfl (by kernel_rfl) rfl rfl rfl (St.drop hs100 (List.sublist_append_right [_] _)) (fun w_ hs_ => (Run.field Tryz.runUnderlying44 rfl rfl rfl Tryz.sizeOf4 rfl)) ?_
  refine WH.all [34] (by kernel_rfl) rfl (WHs.cons (i := 34) rfl ?_ WHs.nil)
  refine WL.st tbk hs100 0 rfl rfl (fun _ hs101 => ?_)
  refine WL.nil ⟨(St.drop hs101 (List.sublist_append_right [_] _)), ?_⟩
  refine WH.done (by kernel_rfl) ?_
  refine hK94 _ _ ?_
  refine WC.sr ?_
  refine WL.run tbk 6 hs101 [] rfl ⟨by omega, trivial⟩ ?_
  refine WL.call rfl rfl rfl (Run.call Tryz.call141 rfl rfl rfl) (c_impl_tabsOf _ _ ?_) ?_
  · first | (first | assumption | rfl | omega) | (first | assumption | omega | (rw [hd91]; exact gridOk_new hs) | (rw [hrM]; assumption) | (rw [hrA]; assumption))
  rintro _ whs102 ⟨A103, c104, L1_105, rfl, hs102, ho106⟩
  replace hs102 := hs101.callF hs102
  refine ⟨_, rfl, ?_⟩
  replace hs102 := St.back [_] hs102
  refine WL.val rfl rfl rfl (Run.nilCheck rfl rfl) ?_
  refine WL.run tbk 1 hs102 [] rfl trivial ?_
  refine WL.st tbk hs102 0 rfl rfl (fun _ hs107 => ?_)
  refine WL.val rfl rfl rfl (Run.nilCheck rfl rfl) ?_
  refine WL.run tbk 1 hs107 [] rfl trivial ?_
  refine WL.st tbk hs107 0 rfl rfl (fun _ hs108 => ?_)
  refine WL.val rfl rfl rfl (Run.nilCheck rfl rfl) ?_
  refine WL.run tbk 1 hs108 [] rfl trivial ?_
  refine WL.st tbk hs108 0 rfl rfl (fun _ hs109 => ?_)
  refine WL.nil ?_
  refine WC.regionG 18 (fun w' => St _ _ _ w') (fun w' => St _ _ _ w') (fun w' => St _ _ _ w') mixed (St.drew (St.drop hs109 (List.sublist_append_right [_] _))) (St.drew hs109) (St.drew hs109) (fun whs110 hs110 => ?_)
  replace hs110 : St _ _ _ _ := hs110
  refine WG.take 0 rfl (by kernel_rfl) (by kernel_rfl) rfl rfl rfl hs110 (fun w_ hs_ => (Run.move rfl rfl)) ?_
  refine WG.takeB 1 rfl (by kernel_rfl) rfl rfl rfl rfl hs110 (fun w_ => (Run.move rfl rfl)) ?_
  refine WG.take 2 rfl (by kernel_rfl) (by kernel_rfl) rfl rfl rfl hs110 (fun w_ hs_ => (Run.move rfl rfl)) ?_
  refine WG.take 3 rfl (by kernel_rfl) (by kernel_rfl) rfl rfl rfl hs110 (fun w_ hs_ => (Run.nilCheck rfl rfl)) ?_
  refine WG.take 4 rfl (by kernel_rfl) (by kernel_rfl) rfl rfl rfl hs110 (fun w_ hs_ => (Run.field Tryz.runUnderlying44 rfl rfl rfl Tryz.sizeOf3 rfl)) ?_
  refine WG.take 5 rfl (by kernel_rfl) (by kernel_rfl) rfl rfl rfl hs110 (fun w_ hs_ => (Run.loadL (hs_ : St _ _ _ _) 0 Tryz.isAgg3 rfl rfl rfl rfl)) ?_
  refine WG.take 6 rfl (by kernel_rfl) (by kernel_rfl) rfl rfl rfl hs110 (fun w_ hs_ => (Run.move rfl rfl)) ?_
  refine WG.take 7 rfl (by kernel_rfl) (by kernel_rfl) rfl rfl rfl hs110 (fun w_ hs_ => (Run.sub rfl rfl rfl ?_)) ?_
  · constructor <;> omega
  refine WG.take 8 rfl (by kernel_rfl) (by kernel_rfl) rfl rfl rfl hs110 (fun w_ hs_ => (Run.min rfl rfl rfl)) ?_
  refine WG.takeB 9 rfl (by kernel_rfl) rfl rfl rfl rfl hs110 (fun w_ => (Run.move rfl rfl)) ?_
  refine WG.takeB 10 rfl (by kernel_rfl) rfl rfl rfl rfl hs110 (fun w_ => (Run.nilCheck rfl rfl)) ?_
  refine WG.takeB 11 rfl (by kernel_rfl) rfl rfl rfl rfl hs110 (fun w_ => (Run.field Tryz.runUnderlying44 rfl rfl rfl Tryz.sizeOf3 rfl)) ?_
  refine WG.take 12 rfl (by kernel_rfl) (by kernel_rfl) rfl rfl rfl hs110 (fun w_ hs_ => (Run.loadL (hs_ : St _ _ _ _) 0 Tryz.isAgg3 rfl rfl rfl rfl)) ?_
  refine WG.takeB 13 rfl (by kernel_rfl) rfl rfl rfl rfl hs110 (fun w_ => (Run.move rfl rfl)) ?_
  refine WG.takeB 14 rfl (by kernel_rfl) rfl rfl rfl rfl hs110 (fun w_ => (Run.sub rfl rfl rfl ?_)) ?_
  · constructor <;> omega
  refine WG.takeB 15 rfl (by kernel_rfl) rfl rfl rfl rfl hs110 (fun w_ => (Run.min rfl rfl rfl)) ?_
  refine WG.takeB 16 rfl (by kernel_rfl) rfl rfl rfl rfl hs110 (fun w_ => (Run.nilCheck rfl rfl)) ?_
  refine WG.take 17 rfl (by kernel_rfl) (by kernel_rfl) rfl rfl rfl hs110 (fun w_ hs_ => (Run.field Tryz.runUnderlying44 rfl rfl rfl Tryz.sizeOf3 rfl)) ?_
  refine WG.all [18] (by kernel_rfl) rfl (WGs.consK rfl ?_ WGs.nil)
  refine WL.st tbk hs110 0 rfl rfl (fun _ hs112 => ?_)
  refine WL.nil ⟨(St.drop hs112 (List.sublist_append_right [_] _)), ?_⟩
  refine WH.take 19 rfl (by kernel_rfl) rfl rfl rfl (St.drop hs112 (List.sublist_append_right [_] _)) (fun w_ hs_ => (Run.nilCheck rfl rfl)) ?_
  refine WH.take 20 rfl (by kernel_rfl) rfl rfl rfl (St.drop hs112 (List.sublist_append_right [_] _)) (fun w_ hs_ => (Run.field Tryz.runUnderlying44 rfl rfl rfl Tryz.sizeOf3 rfl)) ?_
  refine WH.all [21] (by kernel_rfl) rfl (WHs.cons (i := 21) rfl ?_ WHs.nil)
  refine WL.st tbk hs112 0 rfl rfl (fun _ hs113 => ?_)
  refine WL.nil ⟨(St.drop hs113 (List.sublist_append_right [_] _)), ?_⟩
  refine WH.done (by kernel_rfl) ?_
  refine retK0 rfl ?_
  obtain ⟨L114, L115, L116, L117, hs122, ho118, ho119, ho120, ho121⟩ := ownScrR.open_ (St.perm hs113 (L' := L_s ++ _) (perm_front (A := [_]) (perm_front (A := L1_105) (perm_front (A := L1_89) (perm_front (A := L1_84) (perm_front (A := L1_79) (perm_front (A := L1_74) (List.Perm.refl _)))))))) o_s
  have hs123 := (St.perm hs122 (L' := [_] ++ _) (perm_front (A := L114) (perm_front (A := L115) (perm_front (A := L116) (perm_front (A := L117) (List.Perm.refl _))))))
  obtain ⟨L125, hs124, ho126⟩ := ownScrR.fold ⟨0, 0, ⟨0, 0, ⟨_, _, _, _⟩⟩, ⟨0, 0, ⟨_, _, _, _⟩⟩, false, 0, 0, false, ⟨0, 0, false, false, false⟩, 0, 0, false, false, 0, 0, ⟨0, 0, false, false, false⟩, ⟨_, _, _, _⟩, 0, ⟨_, _, _, _⟩⟩ (St.perm (St.perm (St.perm (St.perm hs123 (L' := L117 ++ _) (perm_front (A := [_]) (perm_front (A := L114) (perm_front (A := L115) (perm_front (A := L116) (List.Perm.refl _)))))) (L' := L1_105 ++ _) (perm_front (A := L117) (perm_front (A := [_]) (perm_front (A := L114) (perm_front (A := L115) (perm_front (A := L116) (List.Perm.refl _))))))) (L' := L1_89 ++ _) (perm_front (A := L1_105) (perm_front (A := L117) (perm_front (A := [_]) (perm_front (A := L114) (perm_front (A := L115) (perm_front (A := L116) (List.Perm.refl _)))))))) (L' := L1_79 ++ _) (perm_front (A := L1_89) (perm_front (A := L1_105) (perm_front (A := L117) (perm_front (A := [_]) (perm_front (A := L114) (perm_front (A := L115) (perm_front (A := L116) (perm_front (A := L1_84) (List.Perm.refl _)))))))))) ho80 ho90 ho106 ho121
  have hs127 := (St.perm hs124 (L' := [_] ++ _) (perm_front (A := L125) (List.Perm.refl _)))
  refine ⟨⟨w_, h_, ⟨r78.W, r78.H, SlD.of ho80⟩, ⟨r88.W, r88.H, SlD.of ho90⟩, s.OnAlt, (min s.X (w_ - (1))), (s.Y - (((sizeD s.dat h_).toNat : Nat) : Int)), false, ⟨s.A.Fg, s.A.Bg, s.A.Bold, s.A.Under, s.A.Turn⟩, (0), (h_ - (1)), s.NoWrap, s.Hide, (min s.SaveX (w_ - (1))), (min s.SaveY (h_ - (1))), ⟨s.SaveA.Fg, s.SaveA.Bg, s.SaveA.Bold, s.SaveA.Under, s.SaveA.Turn⟩, SlD.of ho106, s.Limit, SlD.ofN ho121⟩, _, rfl, St.keepP (L1 := L125) (St.perm (St.perm hs127 (L' := L125 ++ _) (perm_front (A := [_]) (List.Perm.refl _))) (L' := [_] ++ _) (perm_front (A := L125) (List.Perm.refl _))), (by exact ho126), ?_⟩
  · rw [show scrSizeOf s.dat w_ h_ = { s.dat with W := w_, H := h_, Main := gPaste (gridNew w_ h_) s.dat.Main 0 (-sizeD s.dat h_), Alt := gPaste (gridNew w_ h_) s.dat.Alt 0 (-sizeD s.dat h_), X := min s.dat.X (w_ - 1), Y := s.dat.Y - sizeD s.dat h_, Wrap := false, Top := 0, Bot := h_ - 1, Tabs := tabsL w_, SaveX := min s.dat.SaveX (w_ - 1), SaveY := min s.dat.SaveY (h_ - 1) } from by unfold scrSizeOf scrSize1; rw [if_pos hon]]; simp only [ScrR.dat, sizeD_nat]; refine ScrD.ext' rfl rfl ?_ ?_ rfl rfl rfl rfl rfl rfl rfl rfl rfl rfl rfl rfl rfl rfl rfl; exact (hd81).trans (by rw [hg27d, sizeD_nat]; rfl); exact (hd91).trans (by rw [hg37d, sizeD_nat]; rfl)
end Go.Proofs.YtlmcekfdlgkffaaGreat
