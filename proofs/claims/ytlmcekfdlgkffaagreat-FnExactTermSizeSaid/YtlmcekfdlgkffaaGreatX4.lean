/- Walks of Go functions, printed by a program (wip/gen). -/
import Derived.Test.YtlmcekfdlgkffaaGreatX3
import Derived.Test.YtlmcekfdlgkffaaGreatM14
namespace Go.Proofs.YtlmcekfdlgkffaaGreat
open Go Go.RowKit
set_option linter.unusedVariables false
set_option linter.unusedSimpArgs false
theorem c_impl_Scr_keep_at4 (u_0 u_1 u_2 u_3 : Value) (b_s : Nat) (s : ScrR) (L_s : Hp) (n : Nat) (w : World) (hb_s : w.heap[b_s]? = some (Obj.cells (List.toArray [u_0, u_1, u_2, u_3, i64 s.W, i64 s.H, i64 s.Main.W, i64 s.Main.H, .slice s.Main.Cells.A s.Main.Cells.n s.Main.Cells.c, i64 s.Alt.W, i64 s.Alt.H, .slice s.Alt.Cells.A s.Alt.Cells.n s.Alt.Cells.c, .bool s.OnAlt, i64 s.X, i64 s.Y, .bool s.Wrap, i64 s.A.Fg, i64 s.A.Bg, .bool s.A.Bold, .bool s.A.Under, .bool s.A.Turn, i64 s.Top, i64 s.Bot, .bool s.NoWrap, .bool s.Hide, i64 s.SaveX, i64 s.SaveY, i64 s.SaveA.Fg, i64 s.SaveA.Bg, .bool s.SaveA.Bold, .bool s.SaveA.Under, .bool s.SaveA.Turn, .slice s.Tabs.A s.Tabs.n s.Tabs.c, i64 s.Limit, .slice s.Back.A s.Back.n s.Back.c]) 46 (0, 0))) (o_s : ownScrR s L_s) (h_s : ∀ p, p ∈ L_s → w.heap[p.1]? = some p.2) (hd_ : (b_s :: L_s.map (·.1)).Nodup) (hm : gridOk s.Main.dat = true) (hlim : 0 ≤ s.Limit ∧ s.Limit ≤ 1048576) (hb : (s.Back.xs.length : Int) ≤ s.Limit) (hn : (n : Int) ≤ s.Main.H) (hsm : smScr 1048576 s.dat) :
    Calls Tryz.prog 138 #[.pointer (some ⟨b_s, 4, none⟩), .int .i64 n] w fun e w' => ∃ r L1, e = .returned (.tuple #[]) ∧ St w (b_s :: L_s.map (·.1)) ([(b_s, Obj.cells (List.toArray [u_0, u_1, u_2, u_3, i64 r.W, i64 r.H, i64 r.Main.W, i64 r.Main.H, .slice r.Main.Cells.A r.Main.Cells.n r.Main.Cells.c, i64 r.Alt.W, i64 r.Alt.H, .slice r.Alt.Cells.A r.Alt.Cells.n r.Alt.Cells.c, .bool r.OnAlt, i64 r.X, i64 r.Y, .bool r.Wrap, i64 r.A.Fg, i64 r.A.Bg, .bool r.A.Bold, .bool r.A.Under, .bool r.A.Turn, i64 r.Top, i64 r.Bot, .bool r.NoWrap, .bool r.Hide, i64 r.SaveX, i64 r.SaveY, i64 r.SaveA.Fg, i64 r.SaveA.Bg, .bool r.SaveA.Bold, .bool r.SaveA.Under, .bool r.SaveA.Turn, .slice r.Tabs.A r.Tabs.n r.Tabs.c, i64 r.Limit, .slice r.Back.A r.Back.n r.Back.c]) 46 (0, 0))] ++ L1) w' ∧ ownScrR r L1 ∧ r.dat = keepRows s.dat n := by
 have hsmB : smScr 549755813888 s.dat := smScr_mono hsm (by decide)
 have hgb : (1 ≤ s.Main.W ∧ s.Main.W ≤ 120) ∧ (1 ≤ s.Main.H ∧ s.Main.H ≤ 120) ∧ 1 ≤ s.Main.W * s.Main.H ∧ s.Main.W * s.Main.H ≤ 4000 := gridOk_bnd hm
 have hgl : (s.Main.Cells.xs.length : Int) = s.Main.W * s.Main.H := by have h_ := hm; unfold gridOk at h_; rw [Bool.and_eq_true, Bool.and_eq_true, decide_eq_true_eq] at h_; exact h_.1.2
 refine enter (vs := [.pointer (some ⟨b_s, 4, none⟩), .int .i64 n]) 49 Tryz.func138 rfl Tryz.ntmps138 rfl rfl ?_
 have hs1 := St.takeP w b_s _ L_s hb_s h_s hd_
 refine WC.seq (fun K2 hK2 => ?_)
 refine WC.rr tbk hs1 [] rfl trivial ?_
 refine WC.block ?_
 have hM7 := (St.grp1 (L1 := L_s) [_] (St.perm (St.perm hs1 (L' := L_s ++ _) (perm_front (A := [_]) (List.Perm.refl _))) (L' := [_] ++ _) (perm_front (A := L_s) (List.Perm.refl _))))
 refine WC.loopV (α := Hp) [(0, _), (1, _), (6, _)] ⟨rfl, rfl, rfl, trivial⟩ (fun a_ => a_) _ hM7 (fun k_ (a_ : Hp) f => ∃ (i : Nat) (r : ScrR) (L5 : Hp), k_ = n - i ∧ a_ = [(b_s, .cells (List.toArray [u_0, u_1, u_2, u_3, i64 r.W, i64 r.H, i64 r.Main.W, i64 r.Main.H, .slice r.Main.Cells.A r.Main.Cells.n r.Main.Cells.c, i64 r.Alt.W, i64 r.Alt.H, .slice r.Alt.Cells.A r.Alt.Cells.n r.Alt.Cells.c, .bool r.OnAlt, i64 r.X, i64 r.Y, .bool r.Wrap, i64 r.A.Fg, i64 r.A.Bg, .bool r.A.Bold, .bool r.A.Under, .bool r.A.Turn, i64 r.Top, i64 r.Bot, .bool r.NoWrap, .bool r.Hide, i64 r.SaveX, i64 r.SaveY, i64 r.SaveA.Fg, i64 r.SaveA.Bg, .bool r.SaveA.Bold, .bool r.SaveA.Under, .bool r.SaveA.Turn, .slice r.Tabs.A r.Tabs.n r.Tabs.c, i64 r.Limit, .slice r.Back.A r.Back.n r.Back.c]) 46 (0, 0))] ++ L5 ∧ (i ≤ n) ∧ (r.dat = keepTo s.dat i) ∧ ownScrR r L5 ∧ Sub [(7, .int .i64 i)] f) (((fun (i : Nat) => n - i) (0))) ?_ ?_
 ·refine ⟨0, s, L_s, rfl, rfl, ?_, ?_, o_s, ⟨rfl, trivial⟩⟩
  · omega
  · exact keepTo_zero.symm
 ·rintro _ _ f w ⟨i, r, L5, rfl, rfl, p0, p1, ho6, hG⟩ hF hs8
  refine WC.sub _ (hG.app hF) ?_
  clear hG hF
  replace hs8 := St.ungrp1 [_] hs8
  have hsmr : smScr 549755813888 r.dat := by rw [p1]; exact keepTo_sm (smScr_mono hsm (by decide)) hm (by simp only [ScrR.dat, List.length_map]; omega) (by decide)
  have hrb : r.Back.xs.length = s.Back.xs.length + i := by have h9 := congrArg (fun d : ScrD => d.Back.length) p1; simpa [ScrR.dat, keepTo] using h9
  have hrm : r.Main.dat = s.Main.dat := congrArg ScrD.Main p1
  have hrW : r.Main.W = s.Main.W := congrArg GridD.W hrm
  have hrC : r.Main.Cells.xs = s.Main.Cells.xs := congrArg GridD.Cells hrm
  have hrL : r.Limit = s.Limit := congrArg ScrD.Limit p1
  obtain ⟨⟨hrn1, hrn2⟩, _, _, hrn3, hrn4⟩ := ownScrR.lens ‹ownScrR r _›
  refine WC.rr tbk hs8 [] rfl trivial ?_
  refine WC.seq (fun K9 hK9 => ?_)
  refine WC.cD rfl (fun qh10 => ?_) (fun qh10 => ?_)
  ·have hv0 : 0 ≤ (i : Int) * r.Main.W := Int.mul_nonneg (by omega) (by omega)
   have hv1 : ((i : Int) + 1) * r.Main.W = (i : Int) * r.Main.W + r.Main.W := by rw [Int.add_mul, Int.one_mul]
   have hv2 : ((i : Int) + 1) * r.Main.W ≤ s.Main.H * s.Main.W := by rw [hrW]; exact Int.mul_le_mul_of_nonneg_right (by omega) (by omega)
   rw [Int.mul_comm s.Main.H] at hv2
   have hrl : r.Main.Cells.xs.length = s.Main.Cells.xs.length := congrArg List.length hrC
   have hrow : (RowD.mk ((r.Main.Cells.xs.drop ((i : Int) * r.Main.W).toNat).take ((((i : Int) + 1) * r.Main.W).toNat - ((i : Int) * r.Main.W).toNat))) = rowAt s.dat.Main i := by
     have e1 : ((i : Int) * r.Main.W).toNat = i * s.Main.W.toNat := by rw [hrW]; exact toNat_mul_nat (by omega)
     have e2 : (((i : Int) + 1) * r.Main.W).toNat - i * s.Main.W.toNat = s.Main.W.toNat := by rw [← e1]; omega
     rw [e1, e2, hrC]; rfl
   refine WC.skip ?_
   refine hK9 _ _ ?_
   refine WC.seq (fun K11 hK11 => ?_)
   refine WC.block ?_
   refine WC.rr tbk hs8 [] rfl trivial ?_
   refine WC.regionG 17 (fun w' => St _ _ _ w') (fun w' => St _ _ _ w') (fun w' => St _ _ _ w') mixed (St.drew (St.drop (St.drop hs8 (List.sublist_append_right [_] _)) (List.sublist_append_right L5 _))) (St.drew (St.drop (St.perm hs8 (L' := L5 ++ _) (perm_front (A := [_]) (List.Perm.refl _))) (List.sublist_append_right L5 _))) (St.drew hs8) (fun whs12 hs12 => ?_)
   replace hs12 : St _ _ _ _ := hs12
   refine WG.take 0 rfl (by kernel_rfl) (by kernel_rfl) rfl rfl rfl (St.drop (St.perm hs12 (L' := L5 ++ _) (perm_front (A := [_]) (List.Perm.refl _))) (List.sublist_append_right L5 _)) (fun w_ hs_ => (Run.move rfl rfl)) ?_
   refine WG.take 1 rfl (by kernel_rfl) (by kernel_rfl) rfl rfl rfl (St.drop (St.perm hs12 (L' := L5 ++ _) (perm_front (A := [_]) (List.Perm.refl _))) (List.sublist_append_right L5 _)) (fun w_ hs_ => (Run.move rfl rfl)) ?_
   refine WG.take 2 rfl (by kernel_rfl) (by kernel_rfl) rfl rfl rfl (St.drop (St.perm hs12 (L' := L5 ++ _) (perm_front (A := [_]) (List.Perm.refl _))) (List.sublist_append_right L5 _)) (fun w_ hs_ => (Run.nilCheck rfl rfl)) ?_
   refine WG.take 3 rfl (by kernel_rfl) (by kernel_rfl) rfl rfl rfl (St.drop (St.perm hs12 (L' := L5 ++ _) (perm_front (A := [_]) (List.Perm.refl _))) (List.sublist_append_right L5 _)) (fun w_ hs_ => (Run.field Tryz.runUnderlying44 rfl rfl rfl Tryz.sizeOf42 rfl)) ?_
   refine WG.take 4 rfl (by kernel_rfl) (by kernel_rfl) rfl rfl rfl (St.drop (St.perm hs12 (L' := L5 ++ _) (perm_front (A := [_]) (List.Perm.refl _))) (List.sublist_append_right L5 _)) (fun w_ hs_ => (Run.loadL (hs_ : St _ _ _ _) 0 Tryz.isAgg42 rfl rfl rfl rfl)) ?_
   refine WG.take 5 rfl (by kernel_rfl) (by kernel_rfl) rfl rfl rfl (St.drop (St.perm hs12 (L' := L5 ++ _) (perm_front (A := [_]) (List.Perm.refl _))) (List.sublist_append_right L5 _)) (fun w_ hs_ => (Run.move rfl rfl)) ?_
   refine WG.take 6 rfl (by kernel_rfl) (by kernel_rfl) rfl rfl rfl (St.drop (St.perm hs12 (L' := L5 ++ _) (perm_front (A := [_]) (List.Perm.refl _))) (List.sublist_append_right L5 _)) (fun w_ hs_ => (Run.nilCheck rfl rfl)) ?_
   refine WG.take 7 rfl (by kernel_rfl) (by kernel_rfl) rfl rfl rfl (St.drop (St.perm hs12 (L' := L5 ++ _) (perm_front (A := [_]) (List.Perm.refl _))) (List.sublist_append_right L5 _)) (fun w_ hs_ => (Run.field Tryz.runUnderlying44 rfl rfl rfl Tryz.sizeOf40 rfl)) ?_
   refine WG.take 8 rfl (by kernel_rfl) (by kernel_rfl) rfl rfl rfl (St.drop (St.perm hs12 (L' := L5 ++ _) (perm_front (A := [_]) (List.Perm.refl _))) (List.sublist_append_right L5 _)) (fun w_ hs_ => (Run.loadLA (hs_ : St _ _ _ _) 0 Tryz.isAgg40 Tryz.sizeOf40 rfl rfl rfl rfl rfl)) ?_
   refine WG.take 9 rfl (by kernel_rfl) (by kernel_rfl) rfl rfl rfl (St.drop (St.perm hs12 (L' := L5 ++ _) (perm_front (A := [_]) (List.Perm.refl _))) (List.sublist_append_right L5 _)) (fun w_ hs_ => (Run.move rfl rfl)) ?_
   refine WG.all [10] (by kernel_rfl) rfl (WGs.cons (i := 10) rfl rfl ?_ WGs.nil)
   refine WL.call rfl rfl rfl (Run.call Tryz.call223 rfl rfl rfl) (c_impl_Grid_row r.Main _ _ (ownScrR.ok (B := 549755813888) ho6 (fun p_ hp_ => (hs12.own p_ (List.mem_append_right [_] (List.mem_append_left _ hp_))).1) hsmr).Main ?_ ?_ ?_ ?_) ?_
   · first | (first | assumption | rfl | omega) | (first | assumption | omega)
   · first | (first | assumption | rfl | omega) | (first | assumption | omega)
   · first | (first | assumption | rfl | omega) | (first | assumption | omega)
   · first | (first | assumption | rfl | omega) | (first | assumption | omega)
   rintro _ whs14 ⟨rfl, hs14⟩
   replace hs14 := hs12.call0 hs14
   refine ⟨_, rfl, ?_⟩
   refine WL.nil ⟨(St.drop (St.perm hs14 (L' := L5 ++ _) (perm_front (A := [_]) (List.Perm.refl _))) (List.sublist_append_right L5 _)), ?_⟩
   refine WG.all [11] (by kernel_rfl) rfl (WGs.cons (i := 11) rfl rfl ?_ WGs.nil)
   refine WL.call rfl rfl rfl (Run.call Tryz.call222 rfl rfl rfl) (c_slices_Clone_impl_Cell_impl_Cell _ _ _ _ _ (SlF.cutC (lo := ((i : Int) * r.Main.W).toNat) (hi := (((i : Int) + 1) * r.Main.W).toNat) (ownScrR.ok (B := 549755813888) ho6 (fun p_ hp_ => (hs14.own p_ (List.mem_append_right [_] (List.mem_append_left _ hp_))).1) hsmr).Main.Cells (by refine ⟨?_, ?_, ?_⟩ <;> (omega))) ?_) ?_
   · first | (first | assumption | rfl | omega) | (first | assumption | omega)
   rintro _ whs15 ⟨A16, c17, L1_18, rfl, hs15, ho19⟩
   replace hs15 := hs14.callF hs15
   refine ⟨_, rfl, ?_⟩
   replace hs15 := St.back [_] hs15
   refine WL.nil ⟨(St.drop (St.perm (St.drop (St.perm hs15 (L' := L1_18 ++ _) (perm_front (A := [_]) (List.Perm.refl _))) (List.sublist_append_right L1_18 _)) (L' := L5 ++ _) (perm_front (A := [_]) (List.Perm.refl _))) (List.sublist_append_right L5 _)), ?_⟩
   refine WG.take 12 rfl (by kernel_rfl) (by kernel_rfl) rfl rfl rfl (St.drop (St.perm (St.drop (St.perm hs15 (L' := L1_18 ++ _) (perm_front (A := [_]) (List.Perm.refl _))) (List.sublist_append_right L1_18 _)) (L' := L5 ++ _) (perm_front (A := [_]) (List.Perm.refl _))) (List.sublist_append_right L5 _)) (fun w_ hs_ => (Run.build rfl rfl rfl rfl (built_111_0 _ _ _))) ?_
   refine WG.all [13] (by kernel_rfl) rfl (WGs.cons (i := 13) rfl rfl ?_ WGs.nil)
   refine WL.buildSlice hs15 Tryz.runUnderlying42 Tryz.sizeOf111 Tryz.zeroValue111 rfl rfl rfl rfl rfl rfl rfl rfl rfl rfl (fun b20 whs21 hs21 => ?_)
   refine WL.nil ⟨(St.drop (St.perm (St.drop (St.perm (St.drop hs21 (List.sublist_append_right [_] _)) (L' := L1_18 ++ _) (perm_front (A := [_]) (List.Perm.refl _))) (List.sublist_append_right L1_18 _)) (L' := L5 ++ _) (perm_front (A := [_]) (List.Perm.refl _))) (List.sublist_append_right L5 _)), ?_⟩
   refine WG.all [14] (by kernel_rfl) rfl (WGs.cons (i := 14) rfl rfl ?_ WGs.nil)
   obtain ⟨L22, L23, L24, L25, hs30, ho26, ho27, ho28, ho29⟩ := ownScrR.open_ (St.perm hs21 (L' := L5 ++ _) (perm_front (A := [_, _]) (perm_front (A := L1_18) (List.Perm.refl _)))) ho6
   have hs31 := (St.perm (St.perm hs30 (L' := [_] ++ _) (perm_front (A := L22) (perm_front (A := L23) (perm_front (A := L24) (perm_front (A := L25) (perm_front (A := [_]) (List.Perm.refl _))))))) (L' := [_] ++ _) (perm_front (A := [_]) (perm_front (A := L22) (perm_front (A := L23) (perm_front (A := L24) (perm_front (A := L25) (List.Perm.refl _)))))))
   obtain ⟨L32, L33, hs36, ho34, ho35⟩ := OwnN.open_ (St.perm hs31 (L' := L25 ++ _) (perm_front (A := [_, _]) (perm_front (A := L22) (perm_front (A := L23) (perm_front (A := L24) (List.Perm.refl _)))))) ho29
   have hs37 := (St.perm (St.perm hs36 (L' := [_] ++ _) (perm_front (A := L32) (perm_front (A := L33) (perm_front (A := [_]) (List.Perm.refl _))))) (L' := [_] ++ _) (perm_front (A := [_]) (perm_front (A := L32) (perm_front (A := L33) (List.Perm.refl _)))))
   refine WL.appendG (St.perm hs37 (L' := L32 ++ _) (perm_front (A := [_, _]) (List.Perm.refl _))) ho34 (srcF (F := encRowR) (ys := [(⟨SlD.of ho19⟩ : RowR)]) Tryz.underlying42 rfl rfl (hs37.own _ (nthL_mem (i := 0) rfl)).1) Tryz.underlying42 info_111 rfl rfl rfl rfl rfl rfl rfl rfl rfl rfl ?_ (fun A41 c42 L38 whs39 hs39 ho40 => ?_)
   · simp; omega
   replace hs39 := St.back [_, _] hs39
   obtain ⟨L43, hs44, hb45⟩ := Bag.put (x := (⟨SlD.of ho19⟩ : RowR)) (St.perm (St.perm hs39 (L' := L1_18 ++ _) (perm_front (A := [_, _]) (perm_front (A := L38) (perm_front (A := L33) (perm_front (A := L22) (perm_front (A := L23) (perm_front (A := L24) (List.Perm.refl _)))))))) (L' := L33 ++ _) (perm_front (A := L1_18) (perm_front (A := [_, _]) (perm_front (A := L38) (List.Perm.refl _))))) ho35 ho19
   have hs46 := (St.perm (St.perm hs44 (L' := [_] ++ _) (perm_front (A := L43) (perm_front (A := [_]) (List.Perm.refl _)))) (L' := [_] ++ _) (perm_front (A := [_]) (perm_front (A := L43) (List.Perm.refl _))))
   obtain ⟨L48, hs47, ho49⟩ := OwnN.fold (St.perm (St.perm hs46 (L' := L43 ++ _) (perm_front (A := [_, _]) (List.Perm.refl _))) (L' := L38 ++ _) (perm_front (A := L43) (perm_front (A := [_, _]) (List.Perm.refl _)))) ho40 hb45
   have hs50 := (St.perm (St.perm hs47 (L' := [_] ++ _) (perm_front (A := L48) (perm_front (A := [_]) (List.Perm.refl _)))) (L' := [_] ++ _) (perm_front (A := [_]) (perm_front (A := L48) (List.Perm.refl _))))
   refine WL.nil ⟨(St.drop (St.perm (St.drop (St.perm (St.drop (St.perm (St.drop (St.perm (St.drop hs50 (List.sublist_append_right [_] _)) (L' := L48 ++ _) (perm_front (A := [_]) (List.Perm.refl _))) (List.sublist_append_right L48 _)) (L' := L22 ++ _) (perm_front (A := [_]) (List.Perm.refl _))) (List.sublist_append_right L22 _)) (L' := L23 ++ _) (perm_front (A := [_]) (List.Perm.refl _))) (List.sublist_append_right L23 _)) (L' := L24 ++ _) (perm_front (A := [_]) (List.Perm.refl _))) (List.sublist_append_right L24 _)), ?_⟩
   refine WG.takeB 15 rfl (by kernel_rfl) rfl rfl rfl rfl (St.drop (St.perm (St.drop (St.perm (St.drop (St.perm (St.drop (St.perm (St.drop hs50 (List.sublist_append_right [_] _)) (L' := L48 ++ _) (perm_front (A := [_]) (List.Perm.refl _))) (List.sublist_append_right L48 _)) (L' := L22 ++ _) (perm_front (A := [_]) (List.Perm.refl _))) (List.sublist_append_right L22 _)) (L' := L23 ++ _) (perm_front (A := [_]) (List.Perm.refl _))) (List.sublist_append_right L23 _)) (L' := L24 ++ _) (perm_front (A := [_]) (List.Perm.refl _))) (List.sublist_append_right L24 _)) (fun w_ => (Run.nilCheck rfl rfl)) ?_
   refine WG.take 16 rfl (by kernel_rfl) (by kernel_rfl) rfl rfl rfl (St.drop (St.perm (St.drop (St.perm (St.drop (St.perm (St.drop (St.perm (St.drop hs50 (List.sublist_append_right [_] _)) (L' := L48 ++ _) (perm_front (A := [_]) (List.Perm.refl _))) (List.sublist_append_right L48 _)) (L' := L22 ++ _) (perm_front (A := [_]) (List.Perm.refl _))) (List.sublist_append_right L22 _)) (L' := L23 ++ _) (perm_front (A := [_]) (List.Perm.refl _))) (List.sublist_append_right L23 _)) (L' := L24 ++ _) (perm_front (A := [_]) (List.Perm.refl _))) (List.sublist_append_right L24 _)) (fun w_ hs_ => (Run.field Tryz.runUnderlying44 rfl rfl rfl Tryz.sizeOf42 rfl)) ?_
   refine WG.all [17] (by kernel_rfl) rfl (WGs.consK rfl ?_ WGs.nil)
   refine WL.st tbk hs50 1 rfl rfl (fun _ hs51 => ?_)
   refine WL.nil ⟨(St.drop (St.drop (St.drop (St.drop (St.drop hs51 (List.sublist_append_right [_, _] _)) (List.sublist_append_right L48 _)) (List.sublist_append_right L22 _)) (List.sublist_append_right L23 _)) (List.sublist_append_right L24 _)), ?_⟩
   refine WH.done (by kernel_rfl) ?_
   refine hK11 _ _ ?_
   refine WC.region ?_
   refine WL.run tbk 2 hs51 [] rfl ⟨by omega, trivial⟩ ?_
   refine WL.nil ?_
   refine tkN ?_
   obtain ⟨L53, hs52, ho54⟩ := ownScrR.fold ⟨0, 0, ⟨0, 0, ⟨_, _, _, _⟩⟩, ⟨0, 0, ⟨_, _, _, _⟩⟩, false, 0, 0, false, ⟨0, 0, false, false, false⟩, 0, 0, false, false, 0, 0, ⟨0, 0, false, false, false⟩, ⟨_, _, _, _⟩, 0, ⟨_, _, _, _⟩⟩ (St.perm (St.perm (St.perm (St.perm hs51 (L' := L48 ++ _) (perm_front (A := [_, _]) (List.Perm.refl _))) (L' := L24 ++ _) (perm_front (A := L48) (perm_front (A := [_, _]) (perm_front (A := L22) (perm_front (A := L23) (List.Perm.refl _)))))) (L' := L23 ++ _) (perm_front (A := L24) (perm_front (A := L48) (perm_front (A := [_, _]) (perm_front (A := L22) (List.Perm.refl _)))))) (L' := L22 ++ _) (perm_front (A := L23) (perm_front (A := L24) (perm_front (A := L48) (perm_front (A := [_, _]) (List.Perm.refl _)))))) ho26 ho27 ho28 ho49
   have hs55 := (St.perm (St.perm hs52 (L' := [_] ++ _) (perm_front (A := L53) (perm_front (A := [_]) (List.Perm.refl _)))) (L' := [_] ++ _) (perm_front (A := [_]) (perm_front (A := L53) (List.Perm.refl _))))
   replace hs55 := St.drop hs55 (List.sublist_append_right [_] _)
   have hF56 := (St.grp1 (L1 := L53) [_] (St.perm (St.perm hs55 (L' := L53 ++ _) (perm_front (A := [_]) (List.Perm.refl _))) (L' := [_] ++ _) (perm_front (A := L53) (List.Perm.refl _))))
   refine ⟨⟨rfl, rfl, rfl, trivial⟩, _, hF56, _, ?_, i + 1, ⟨r.W, r.H, ⟨r.Main.W, r.Main.H, SlD.of ho26⟩, ⟨r.Alt.W, r.Alt.H, SlD.of ho27⟩, r.OnAlt, r.X, r.Y, r.Wrap, ⟨r.A.Fg, r.A.Bg, r.A.Bold, r.A.Under, r.A.Turn⟩, r.Top, r.Bot, r.NoWrap, r.Hide, r.SaveX, r.SaveY, ⟨r.SaveA.Fg, r.SaveA.Bg, r.SaveA.Bold, r.SaveA.Under, r.SaveA.Turn⟩, SlD.of ho28, r.Limit, SlD.ofN ho49⟩, L53, rfl, rfl, ?_, ?_, (by exact ho54), ⟨rfl, trivial⟩⟩
   · omega
   · omega
   · rw [keepTo_succ (r := ⟨_⟩) hrow, ← p1]; simp only [ScrR.dat, List.map_append, List.map_cons, List.map_nil]; rfl
  ·have hin : i = n := by omega
   rw [hin] at p1
   have hrd : r.dat.Back.length = r.Back.xs.length := List.length_map _
   refine WC.exit ?_
   refine hK2 _ _ ?_
   refine WC.sq hs8 mixed (by kernel_rfl) ?_
   refine WQ.run tbk 1 [] rfl trivial ?_
   refine WQ.val rfl rfl rfl (fun w_ hs_ => (Run.nilCheck rfl rfl)) ?_
   refine WQ.run tbk 4 [0] rfl ⟨rfl, trivial⟩ ?_
   refine WQ.val rfl rfl rfl (fun w_ hs_ => (Run.nilCheck rfl rfl)) ?_
   refine WQ.run tbk 4 [0] rfl ⟨by omega, rfl, trivial⟩ ?_
   refine WQ.nil (fun _ (hs57 : St _ _ _ _) => ?_)
   refine WC.rr tbk hs57 [] rfl trivial ?_
   refine WC.cD rfl (fun qh58 => ?_) (fun qh58 => ?_)
   ·refine WC.region ?_
    refine WL.run tbk 2 hs57 [] rfl trivial ?_
    refine WL.val rfl rfl rfl (Run.nilCheck rfl rfl) ?_
    refine WL.run tbk 3 hs57 [0] rfl ⟨rfl, trivial⟩ ?_
    obtain ⟨L60, L61, L62, L63, hs68, ho64, ho65, ho66, ho67⟩ := ownScrR.open_ (St.perm hs57 (L' := L5 ++ _) (perm_front (A := [_]) (List.Perm.refl _))) ho6
    have hs69 := (St.perm hs68 (L' := [_] ++ _) (perm_front (A := L60) (perm_front (A := L61) (perm_front (A := L62) (perm_front (A := L63) (List.Perm.refl _))))))
    refine WL.call rfl rfl rfl (Run.call Tryz.call224 rfl rfl rfl) (c_slices_Delete_impl_Row_impl_Row _ _ _ _ _ _ ho67 (fun p_ hp_ => (hs69.own p_ (List.mem_append_right [_] (List.mem_append_right _ (List.mem_append_right _ (List.mem_append_right _ (List.mem_append_left _ hp_)))))).1) (St.nodupL (St.perm hs69 (L' := L63 ++ _) (perm_front (A := [_]) (perm_front (A := L60) (perm_front (A := L61) (perm_front (A := L62) (List.Perm.refl _))))))) ?_ ?_ ?_) ?_
    · first | (first | assumption | rfl | omega) | (first | assumption | omega)
    · first | (first | assumption | rfl | omega) | (first | assumption | omega)
    · first | (first | assumption | rfl | omega) | (first | assumption | omega)
    rintro _ whs59 ⟨A70, c71, n72, xs73, L1_74, rfl, hs59, ho75, hd76⟩
    replace hs59 := St.lend (St.perm hs69 (L' := L63 ++ _) (perm_front (A := [_]) (perm_front (A := L60) (perm_front (A := L61) (perm_front (A := L62) (List.Perm.refl _)))))) hs59
    refine ⟨_, rfl, ?_⟩
    replace hs59 := St.back [_] hs59
    refine WL.val rfl rfl rfl (Run.nilCheck rfl rfl) ?_
    refine WL.run tbk 1 hs59 [] rfl trivial ?_
    refine WL.st tbk hs59 0 rfl rfl (fun _ hs77 => ?_)
    refine WL.nil ?_
    refine retK0 rfl ?_
    obtain ⟨L79, hs78, ho80⟩ := ownScrR.fold ⟨0, 0, ⟨0, 0, ⟨_, _, _, _⟩⟩, ⟨0, 0, ⟨_, _, _, _⟩⟩, false, 0, 0, false, ⟨0, 0, false, false, false⟩, 0, 0, false, false, 0, 0, ⟨0, 0, false, false, false⟩, ⟨_, _, _, _⟩, 0, ⟨_, _, _, _⟩⟩ (St.perm (St.perm (St.perm (St.perm hs77 (L' := L1_74 ++ _) (perm_front (A := [_]) (List.Perm.refl _))) (L' := L62 ++ _) (perm_front (A := L1_74) (perm_front (A := [_]) (perm_front (A := L60) (perm_front (A := L61) (List.Perm.refl _)))))) (L' := L61 ++ _) (perm_front (A := L62) (perm_front (A := L1_74) (perm_front (A := [_]) (perm_front (A := L60) (List.Perm.refl _)))))) (L' := L60 ++ _) (perm_front (A := L61) (perm_front (A := L62) (perm_front (A := L1_74) (perm_front (A := [_]) (List.Perm.refl _)))))) ho64 ho65 ho66 ho75
    have hs81 := (St.perm hs78 (L' := [_] ++ _) (perm_front (A := L79) (List.Perm.refl _)))
    refine ⟨⟨r.W, r.H, ⟨r.Main.W, r.Main.H, SlD.of ho64⟩, ⟨r.Alt.W, r.Alt.H, SlD.of ho65⟩, r.OnAlt, r.X, r.Y, r.Wrap, ⟨r.A.Fg, r.A.Bg, r.A.Bold, r.A.Under, r.A.Turn⟩, r.Top, r.Bot, r.NoWrap, r.Hide, r.SaveX, r.SaveY, ⟨r.SaveA.Fg, r.SaveA.Bg, r.SaveA.Bold, r.SaveA.Under, r.SaveA.Turn⟩, SlD.of ho66, r.Limit, SlD.ofN ho75⟩, _, rfl, St.keepP (L1 := L79) (St.perm (St.perm hs81 (L' := L79 ++ _) (perm_front (A := [_]) (List.Perm.refl _))) (L' := [_] ++ _) (perm_front (A := L79) (List.Perm.refl _))), (by exact ho80), ?_⟩
    · refine Eq.trans ?_ (keepTo_drop p1 (k := ((r.Back.n : Int) - r.Limit).toNat) (by show _ = _ - s.Limit.toNat; omega)); simp only [ScrR.dat, hd76, List.map_drop]
   ·refine WC.skip ?_
    refine retK0 rfl ?_
    refine ⟨r, _, rfl, St.keepP (L1 := L5) (St.perm (St.perm hs57 (L' := L5 ++ _) (perm_front (A := [_]) (List.Perm.refl _))) (L' := [_] ++ _) (perm_front (A := L5) (List.Perm.refl _))), ho6, ?_⟩
    · exact keepTo_all p1 (by show _ ≤ s.Limit.toNat; omega)
end Go.Proofs.YtlmcekfdlgkffaaGreat
