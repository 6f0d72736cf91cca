/- Walks of Go functions, printed by a program (wip/gen). -/
import Derived.Test.YtlmcekfdlgkffaaGreatX0
import Derived.Test.YtlmcekfdlgkffaaGreatM13
namespace Go.Proofs.YtlmcekfdlgkffaaGreat
open Go Go.RowKit
set_option linter.unusedVariables false
set_option linter.unusedSimpArgs false
theorem c_impl_Grid_row (g : GridR) (y : Int) (w : World) (f_g : okGridR 549755813888 w g) (h0 : 0 ≤ y * g.W) (h1 : y * g.W ≤ (y + 1) * g.W) (h2 : (y + 1) * g.W ≤ g.Cells.n) (h3 : -1 ≤ y ∧ y ≤ 1048576) :
    Calls Tryz.prog 223 #[.agg #[i64 g.W, i64 g.H, .slice g.Cells.A g.Cells.n g.Cells.c], i64 y] w fun e w' => e = .returned (.slice (cutA g.Cells.A (y * g.W).toNat 6 g.Cells.c) (((y + 1) * g.W).toNat - (y * g.W).toNat) (g.Cells.c - (y * g.W).toNat)) ∧ St w [] [] w' := by
 have nb_g_Cells := f_g.Cells_n
 have nl_g_Cells := f_g.Cells.len
 have hcap := f_g.Cells_c
 refine enter (vs := [.agg #[i64 g.W, i64 g.H, .slice g.Cells.A g.Cells.n g.Cells.c], i64 y]) 17 Tryz.func223 rfl Tryz.ntmps223 rfl rfl ?_
 have hs1 := St.init w
 refine WC.sr ?_
 refine WL.bx hs1 rfl (fun b2 _ hs3 => ?_)
 refine WL.run tbk 1 hs3 [] rfl trivial ?_
 refine WL.nil ?_
 refine WC.sr ?_
 refine WL.run tbk 11 hs3 [0, 0, 0] rfl ⟨?_, rfl, by omega, ?_, rfl, rfl, trivial⟩ ?_
 · constructor <;> omega
 · constructor <;> omega
 refine WL.val rfl rfl rfl (Run.sliceLH ((y * g.W).toNat) (((y + 1) * g.W).toNat) Tryz.runUnderlying38 Tryz.sizeOf65 rfl rfl rfl rfl ?_ ?_ ?_) ?_
 · first | rfl | (omega)
 · first | rfl | (omega)
 · refine ⟨?_, ?_, ?_⟩ <;> (omega)
 refine WL.run tbk 1 hs3 [] rfl trivial ?_
 refine WL.nil ?_
 refine WC.ret ?_
 refine retV1 rfl (resV.tmp rfl) ?_
 refine ⟨congrArg Ending.returned ?_, hs3.nil⟩
 rfl
theorem c_spec_l07Small (n : Int) (w : World) :
    Calls Tryz.prog 217 #[i64 n] w fun e w' => e = .returned (.bool (within n (-100000) 100000)) ∧ St w [] [] w' := by
 refine enter (vs := [i64 n]) 9 Tryz.func217 rfl Tryz.ntmps217 rfl rfl ?_
 have hs1 := St.init w
 refine WC.rr tbk hs1 [] rfl trivial ?_
 refine WC.sr ?_
 refine WL.run tbk 3 hs1 [] rfl trivial ?_
 refine WL.pA tbk 2 Acts.nil hs1 [] rfl rfl rfl rfl (fun g_ => trivial) ?_
 refine WL.run tbk 1 hs1 [] rfl trivial ?_
 refine WL.nil ?_
 refine WC.ret ?_
 refine retV1 rfl (resV.tmp rfl) ?_
 refine ⟨congrArg Ending.returned ?_, hs1.nil⟩
 rfl
theorem c_spec_l02Clamp (n hi : Int) (w : World) :
    Calls Tryz.prog 133 #[i64 n, i64 hi] w fun e w' => e = .returned (.int .i64 (if n < 0 then 0 else min n hi)) ∧ St w [] [] w' := by
 refine enter (vs := [i64 n, i64 hi]) 12 Tryz.func133 rfl Tryz.ntmps133 rfl rfl ?_
 have hs1 := St.init w
 refine WC.rr tbk hs1 [] rfl trivial ?_
 refine WC.seq (fun K2 hK2 => ?_)
 refine WC.rr tbk hs1 [] rfl trivial ?_
 refine WC.cD rfl (fun qh3 => ?_) (fun qh3 => ?_)
 ·refine WC.rr tbk hs1 [] rfl trivial ?_
  refine WC.ret ?_
  refine tkR ?_
  clear hK2
  refine retV1 rfl (resV.tmp rfl) ?_
  refine ⟨congrArg Ending.returned ?_, hs1.nil⟩
  congr 1; (repeat' split) <;> omega
 ·refine WC.skip ?_
  refine hK2 _ _ ?_
  refine WC.seq (fun K4 hK4 => ?_)
  refine WC.rr tbk hs1 [] rfl trivial ?_
  refine WC.cD rfl (fun qh5 => ?_) (fun qh5 => ?_)
  ·refine WC.rr tbk hs1 [] rfl trivial ?_
   refine WC.ret ?_
   refine tkR ?_
   clear hK4
   refine retV1 rfl (resV.tmp rfl) ?_
   refine ⟨congrArg Ending.returned ?_, hs1.nil⟩
   congr 1; (repeat' split) <;> omega
  ·refine WC.skip ?_
   refine hK4 _ _ ?_
   refine WC.rr tbk hs1 [] rfl trivial ?_
   refine WC.ret ?_
   refine retV1 rfl (resV.tmp rfl) ?_
   refine ⟨congrArg Ending.returned ?_, hs1.nil⟩
   congr 1; (repeat' split) <;> omega
theorem c_impl_Grid_paste (g : GridR) (h : GridR) (x : Int) (y : Int) (w : World) (f_g : okGridR 549755813888 w g) (f_h : okGridR 549755813888 w h) (hg : gridOk g.dat = true) (hh : gridOk h.dat = true) (hx : -100000 ≤ x ∧ x ≤ 100000) (hy : -100000 ≤ y ∧ y ≤ 100000) :
    Calls Tryz.prog 140 #[.agg #[i64 g.W, i64 g.H, .slice g.Cells.A g.Cells.n g.Cells.c], .agg #[i64 h.W, i64 h.H, .slice h.Cells.A h.Cells.n h.Cells.c], i64 x, i64 y] w fun e w' => ∃ r L1, e = .returned (.agg #[i64 r.W, i64 r.H, .slice r.Cells.A r.Cells.n r.Cells.c]) ∧ St w [] L1 w' ∧ ownGridR r L1 ∧ r.dat = gPaste g.dat h.dat x y := by
 have nb_g_Cells := f_g.Cells_n
 have nl_g_Cells := f_g.Cells.len
 have nb_h_Cells := f_h.Cells_n
 have nl_h_Cells := f_h.Cells.len
 have hgb : (1 ≤ g.W ∧ g.W ≤ 120) ∧ (1 ≤ g.H ∧ g.H ≤ 120) ∧ 1 ≤ g.W * g.H ∧ g.W * g.H ≤ 4000 := gridOk_bnd hg
 have hhb : (1 ≤ h.W ∧ h.W ≤ 120) ∧ (1 ≤ h.H ∧ h.H ≤ 120) ∧ 1 ≤ h.W * h.H ∧ h.W * h.H ≤ 4000 := gridOk_bnd hh
 have hgl : (g.Cells.xs.length : Int) = g.W * g.H := by have h_ := hg; unfold gridOk at h_; rw [Bool.and_eq_true, Bool.and_eq_true, decide_eq_true_eq] at h_; exact h_.1.2
 have hhl : (h.Cells.xs.length : Int) = h.W * h.H := by have h_ := hh; unfold gridOk at h_; rw [Bool.and_eq_true, Bool.and_eq_true, decide_eq_true_eq] at h_; exact h_.1.2
 have hsmg : smGrid 1048576 g.dat := by show g.Cells.xs.length ≤ 1048576; omega
 refine enter (vs := [.agg #[i64 g.W, i64 g.H, .slice g.Cells.A g.Cells.n g.Cells.c], .agg #[i64 h.W, i64 h.H, .slice h.Cells.A h.Cells.n h.Cells.c], i64 x, i64 y]) 50 Tryz.func140 rfl Tryz.ntmps140 rfl rfl ?_
 have hs1 := St.init w
 refine WC.sr ?_
 refine WL.bx hs1 rfl (fun b2 _ hs3 => ?_)
 refine WL.bx hs3 rfl (fun b4 _ hs5 => ?_)
 refine WL.al hs5 Tryz.zeroValue40 rfl rfl (fun b6 _ hs7 => ?_)
 refine WL.nil ?_
 refine WC.sr ?_
 refine WL.run tbk 1 hs7 [2] rfl ⟨rfl, trivial⟩ ?_
 refine WL.call rfl rfl rfl (Run.call Tryz.call221 rfl rfl rfl) (c_impl_copyGrid g _ (okGridR.st0 f_g hs7) ?_) ?_
 · first | (first | assumption | rfl | omega) | (first | assumption | omega | (rw [q1.1]; omega))
 rintro _ whs8 ⟨r9, L1_10, rfl, hs8, ho11, hd12⟩
 replace hs8 := hs7.callF hs8
 refine ⟨_, rfl, ?_⟩
 replace hs8 := St.back [_, _, _] hs8
 skip
 refine WL.al hs8 Tryz.zeroValue40 rfl rfl (fun b13 _ hs14 => ?_)
 refine WL.st tbk hs14 0 rfl rfl (fun _ hs15 => ?_)
 refine WL.nil ?_
 refine WC.seq (fun K16 hK16 => ?_)
 refine WC.rr tbk hs15 [2] rfl ⟨rfl, trivial⟩ ?_
 refine WC.block ?_
 have hM21 := (St.grp1 (L1 := L1_10) [_] (St.perm (St.perm (St.perm (St.perm (St.perm hs15 (L' := [_] ++ _) (perm_front (A := [_, _, _]) (List.Perm.refl _))) (L' := [_] ++ _) (perm_front (A := [_, _, _]) (List.Perm.refl _))) (L' := [_] ++ _) (perm_front (A := [_, _, _]) (List.Perm.refl _))) (L' := L1_10 ++ _) (perm_front (A := [_, _, _, _]) (List.Perm.refl _))) (L' := [_] ++ _) (perm_front (A := L1_10) (perm_front (A := [_, _, _]) (List.Perm.refl _)))))
 refine WC.loopV (α := Hp) [(0, _), (1, _), (2, _), (3, _), (4, _), (5, _), (8, _), (9, _), (12, _), (13, _), (14, _), (15, _)] ⟨rfl, rfl, rfl, rfl, rfl, rfl, rfl, rfl, rfl, rfl, rfl, rfl, trivial⟩ (fun a_ => a_) _ hM21 (fun k_ (a_ : Hp) f => ∃ (a : Nat) (r : GridR) (L19 : Hp), k_ = h.H.toNat - a ∧ a_ = [(b13, .cells (List.toArray [i64 r.W, i64 r.H, .slice r.Cells.A r.Cells.n r.Cells.c]) 40 (0, 0))] ++ L19 ∧ ((a : Int) ≤ h.H) ∧ (r.W = g.W ∧ r.H = g.H ∧ r.Cells.xs.length = g.Cells.xs.length) ∧ (∀ k, k < g.Cells.xs.length → cat r.Cells.xs k = pasteTo g.dat h.dat x y (a * h.W.toNat) k) ∧ ownGridR r L19 ∧ Sub [(16, .int .i64 a)] f) (((fun (a : Nat) => h.H.toNat - a) (0))) ?_ ?_
 ·refine ⟨0, r9, L1_10, rfl, rfl, ?_, ?_, ?_, ho11, ⟨rfl, trivial⟩⟩
  · omega
  · exact ⟨congrArg GridD.W hd12, congrArg GridD.H hd12, congrArg (fun d : GridD => d.Cells.length) hd12⟩
  · intro k hk; rw [Nat.zero_mul, pasteTo_zero]; exact congrArg (fun d : GridD => cat d.Cells k) hd12
 ·rintro _ _ f w ⟨a, r, L19, rfl, rfl, p0, p1, p2, ho20, hG⟩ hF hs22
  refine WC.sub _ (hG.app hF) ?_
  clear hG hF
  replace hs22 := St.ungrp1 [_] hs22
  have hs23 := (St.perm (St.perm (St.perm (St.perm hs22 (L' := [_] ++ _) (perm_front (A := [_]) (perm_front (A := L19) (perm_front (A := [_, _]) (List.Perm.refl _))))) (L' := [_] ++ _) (perm_front (A := [_, _]) (perm_front (A := L19) (perm_front (A := [_]) (List.Perm.refl _))))) (L' := [_] ++ _) (perm_front (A := [_, _, _]) (perm_front (A := L19) (List.Perm.refl _)))) (L' := [_] ++ _) (perm_front (A := [_, _, _]) (List.Perm.refl _)))
  have hsmr : smGrid 549755813888 r.dat := by show r.Cells.xs.length ≤ 549755813888; omega
  refine WC.rr tbk hs23 [] rfl trivial ?_
  refine WC.seq (fun K24 hK24 => ?_)
  refine WC.cond rfl (fun h25 => ?_) (fun h25 => ?_)
  ·have qh25 := h25
   try simp only [bf, within_iff, within_not] at qh25
   refine WC.skip ?_
   refine hK24 _ _ ?_
   refine WC.seq (fun K26 hK26 => ?_)
   refine WC.block ?_
   refine WC.rr tbk hs23 [] rfl trivial ?_
   refine WC.rr tbk hs23 [2] rfl ⟨rfl, trivial⟩ ?_
   refine WC.block ?_
   have hM31 := (St.grp1 (L1 := L19) [_] (St.perm (St.perm (St.perm (St.perm (St.perm hs23 (L' := [_] ++ _) (perm_front (A := [_, _, _]) (List.Perm.refl _))) (L' := [_] ++ _) (perm_front (A := [_, _, _]) (List.Perm.refl _))) (L' := [_] ++ _) (perm_front (A := [_, _, _]) (List.Perm.refl _))) (L' := L19 ++ _) (perm_front (A := [_, _, _, _]) (List.Perm.refl _))) (L' := [_] ++ _) (perm_front (A := L19) (perm_front (A := [_, _, _]) (List.Perm.refl _)))))
   refine WC.loopV (α := Hp) [(0, _), (1, _), (2, _), (3, _), (4, _), (5, _), (8, _), (9, _), (10, _), (12, _), (13, _), (14, _), (15, _), (16, _), (17, _), (18, _), (19, _), (20, _)] ⟨rfl, rfl, rfl, rfl, rfl, rfl, rfl, rfl, rfl, rfl, rfl, rfl, rfl, rfl, rfl, rfl, rfl, rfl, trivial⟩ (fun a_ => a_) _ hM31 (fun k_ (a_ : Hp) f => ∃ (c : Nat) (r : GridR) (L29 : Hp), k_ = h.W.toNat - c ∧ a_ = [(b13, .cells (List.toArray [i64 r.W, i64 r.H, .slice r.Cells.A r.Cells.n r.Cells.c]) 40 (0, 0))] ++ L29 ∧ ((c : Int) ≤ h.W) ∧ (r.W = g.W ∧ r.H = g.H ∧ r.Cells.xs.length = g.Cells.xs.length) ∧ (∀ k, k < g.Cells.xs.length → cat r.Cells.xs k = pasteTo g.dat h.dat x y (a * h.W.toNat + c) k) ∧ ownGridR r L29 ∧ Sub [(21, .int .i64 c)] f) (((fun (c : Nat) => h.W.toNat - c) (0))) ?_ ?_
   ·refine ⟨0, r, L19, rfl, rfl, ?_, ?_, ?_, ho20, ⟨rfl, trivial⟩⟩
    · omega
    · exact p1
    · rw [Nat.add_zero]; exact p2
   ·rintro _ _ f w ⟨c, r, L29, rfl, rfl, q0, q1, q2, ho30, hG⟩ hF hs32
    refine WC.sub _ (hG.app hF) ?_
    clear hG hF
    replace hs32 := St.ungrp1 [_] hs32
    have hs33 := (St.perm (St.perm (St.perm (St.perm hs32 (L' := [_] ++ _) (perm_front (A := [_]) (perm_front (A := L29) (perm_front (A := [_, _]) (List.Perm.refl _))))) (L' := [_] ++ _) (perm_front (A := [_, _]) (perm_front (A := L29) (perm_front (A := [_]) (List.Perm.refl _))))) (L' := [_] ++ _) (perm_front (A := [_, _, _]) (perm_front (A := L29) (List.Perm.refl _)))) (L' := [_] ++ _) (perm_front (A := [_, _, _]) (List.Perm.refl _)))
    have hsmr : smGrid 549755813888 r.dat := by show r.Cells.xs.length ≤ 549755813888; omega
    refine WC.rr tbk hs33 [] rfl trivial ?_
    refine WC.seq (fun K34 hK34 => ?_)
    refine WC.cond rfl (fun h35 => ?_) (fun h35 => ?_)
    ·have qh35 := h35
     try simp only [bf, within_iff, within_not] at qh35
     have hcw : (c : Int) < h.W := by omega
     have haw : (a : Int) < h.H := by omega
     have hk0 : ∀ k, k < g.Cells.xs.length → k < g.W.toNat * g.H.toNat := fun k hk => by have e9 : ((g.W.toNat * g.H.toNat : Nat) : Int) = g.W * g.H := by { rw [Int.natCast_mul, Int.toNat_of_nonneg (by omega), Int.toNat_of_nonneg (by omega)] }; omega
     refine WC.skip ?_
     refine hK34 _ _ ?_
     refine WC.seq (fun K36 hK36 => ?_)
     refine WC.block ?_
     refine WC.rr tbk hs33 [] rfl trivial ?_
     refine WC.sr ?_
     refine WL.run tbk 7 hs33 [0] rfl ⟨by omega, by omega, rfl, trivial⟩ ?_
     refine WL.call rfl rfl rfl (Run.call Tryz.call120 rfl rfl rfl) (c_impl_Grid_has r _ _ _ (ownGridR.ok (B := 549755813888) ho30 (fun p_ hp_ => (hs33.own p_ (List.mem_append_right [_, _, _, _] (List.mem_append_left _ hp_))).1) hsmr) ?_ ?_) ?_
     · first | (first | assumption | rfl | omega) | (first | assumption | omega | (rw [q1.1]; omega))
     · first | (first | assumption | rfl | omega) | (first | assumption | omega | (rw [q1.1]; omega))
     rintro _ whs37 ⟨rfl, hs37⟩
     replace hs37 := hs33.call0 hs37
     refine ⟨_, rfl, ?_⟩
     refine WL.nil ?_
     refine WC.cond rfl (fun h38 => ?_) (fun h38 => ?_)
     ·have qh38 := h38
      try simp only [bf, within_iff, within_not] at qh38
      have hin : (0 ≤ x + (c : Int) ∧ x + (c : Int) < g.W) ∧ 0 ≤ y + (a : Int) ∧ y + (a : Int) < g.H := by have h9 := h38; unfold gridHas at h9; rw [Bool.and_eq_true, within_iff, within_iff] at h9; obtain ⟨h91, h92⟩ := h9; have e1 : r.dat.W = g.W := q1.1; have e2 : r.dat.H = g.H := q1.2.1; rw [e1] at h91; rw [e2] at h92; omega
      have hrw : r.W = g.W := q1.1
      have hy1 : (y + (a : Int) + 1) * g.W = (y + (a : Int)) * g.W + g.W := by rw [Int.add_mul, Int.one_mul]
      have hy0 : 0 ≤ (y + (a : Int)) * g.W := Int.mul_nonneg hin.2.1 (by omega)
      have hy2 : (y + (a : Int) + 1) * g.W ≤ g.H * g.W := Int.mul_le_mul_of_nonneg_right (by omega) (by omega)
      rw [Int.mul_comm g.H g.W] at hy2
      have ha1 : ((a : Int) + 1) * h.W = (a : Int) * h.W + h.W := by rw [Int.add_mul, Int.one_mul]
      have ha0 : 0 ≤ (a : Int) * h.W := Int.mul_nonneg (by omega) (by omega)
      have ha2 : ((a : Int) + 1) * h.W ≤ h.H * h.W := Int.mul_le_mul_of_nonneg_right (by omega) (by omega)
      rw [Int.mul_comm h.H h.W] at ha2
      have hlr := f_g.Cells.len
      have hlh := f_h.Cells.len
      have hch := f_h.Cells_c
      have hnr := ownGridR.len ‹ownGridR r _›
      have hcr := OwnF.cap ‹ownGridR r _›
      have hz1 : (y + (a : Int) + 1) * r.W = (y + (a : Int) + 1) * g.W := by rw [hrw]
      have hix : ((y + (a : Int)) * r.W).toNat + (x + (c : Int)).toNat = (y + (a : Int)).toNat * g.dat.W.toNat + (x + (c : Int)).toNat := by rw [hrw, Int.toNat_mul hin.2.1 (by omega)]; rfl
      have hz0 : (y + (a : Int)) * r.W = (y + (a : Int)) * g.W := by rw [hrw]
      refine WC.regionG 15 (fun w' => St _ _ _ w') (fun w' => St _ _ _ w') (fun w' => St _ _ _ w') mixed (St.drew (St.drop (St.perm hs37 (L' := L29 ++ _) (perm_front (A := [_, _, _, _]) (List.Perm.refl _))) (List.sublist_append_right L29 _))) (St.drew hs37) (St.drew hs37) (fun whs39 hs39 => ?_)
      replace hs39 : St _ _ _ _ := hs39
      refine WG.take 0 rfl (by kernel_rfl) (by kernel_rfl) rfl rfl rfl hs39 (fun w_ hs_ => (Run.loadLA (hs_ : St _ _ _ _) 0 Tryz.isAgg40 Tryz.sizeOf40 rfl rfl rfl rfl rfl)) ?_
      refine WG.take 1 rfl (by kernel_rfl) (by kernel_rfl) rfl rfl rfl hs39 (fun w_ hs_ => (Run.move rfl rfl)) ?_
      refine WG.take 2 rfl (by kernel_rfl) (by kernel_rfl) rfl rfl rfl hs39 (fun w_ hs_ => (Run.move rfl rfl)) ?_
      refine WG.take 3 rfl (by kernel_rfl) (by kernel_rfl) rfl rfl rfl hs39 (fun w_ hs_ => (Run.add rfl rfl rfl ?_)) ?_
      · constructor <;> omega
      refine WG.take 5 rfl (by kernel_rfl) (by kernel_rfl) rfl rfl rfl hs39 (fun w_ hs_ => (Run.move rfl rfl)) ?_
      refine WG.take 6 rfl (by kernel_rfl) (by kernel_rfl) rfl rfl rfl hs39 (fun w_ hs_ => (Run.move rfl rfl)) ?_
      refine WG.take 7 rfl (by kernel_rfl) (by kernel_rfl) rfl rfl rfl hs39 (fun w_ hs_ => (Run.add rfl rfl rfl ?_)) ?_
      · constructor <;> omega
      refine WG.take 8 rfl (by kernel_rfl) (by kernel_rfl) rfl rfl rfl hs39 (fun w_ hs_ => (Run.loadLA (hs_ : St _ _ _ _) 2 Tryz.isAgg40 Tryz.sizeOf40 rfl rfl rfl rfl rfl)) ?_
      refine WG.take 9 rfl (by kernel_rfl) (by kernel_rfl) rfl rfl rfl hs39 (fun w_ hs_ => (Run.move rfl rfl)) ?_
      refine WG.take 11 rfl (by kernel_rfl) (by kernel_rfl) rfl rfl rfl hs39 (fun w_ hs_ => (Run.move rfl rfl)) ?_
      refine WG.all [4] (by kernel_rfl) rfl (WGs.cons (i := 4) rfl rfl ?_ WGs.nil)
      refine WL.call rfl rfl rfl (Run.call Tryz.call223 rfl rfl rfl) (c_impl_Grid_row r _ _ (ownGridR.ok (B := 549755813888) ho30 (fun p_ hp_ => (hs39.own p_ (List.mem_append_right [_, _, _, _] (List.mem_append_left _ hp_))).1) hsmr) ?_ ?_ ?_ ?_) ?_
      · first | (first | assumption | rfl | omega) | (first | assumption | omega | (rw [q1.1]; omega))
      · first | (first | assumption | rfl | omega) | (first | assumption | omega | (rw [q1.1]; omega))
      · first | (first | assumption | rfl | omega) | (first | assumption | omega | (rw [q1.1]; omega))
      · first | (first | assumption | rfl | omega) | (first | assumption | omega | (rw [q1.1]; omega))
      rintro _ whs41 ⟨rfl, hs41⟩
      replace hs41 := hs39.call0 hs41
      refine ⟨_, rfl, ?_⟩
      refine WL.nil ⟨hs41, ?_⟩
      refine WG.all [10] (by kernel_rfl) rfl (WGs.cons (i := 10) rfl rfl ?_ WGs.nil)
      refine WL.call rfl rfl rfl (Run.call Tryz.call223 rfl rfl rfl) (c_impl_Grid_row h _ _ (okGridR.st0 f_h hs41) ?_ ?_ ?_ ?_) ?_
      · first | (first | assumption | rfl | omega) | (first | assumption | omega | (rw [q1.1]; omega))
      · first | (first | assumption | rfl | omega) | (first | assumption | omega | (rw [q1.1]; omega))
      · first | (first | assumption | rfl | omega) | (first | assumption | omega | (rw [q1.1]; omega))
      · first | (first | assumption | rfl | omega) | (first | assumption | omega | (rw [q1.1]; omega))
      rintro _ whs42 ⟨rfl, hs42⟩
      replace hs42 := hs41.call0 hs42
      refine ⟨_, rfl, ?_⟩
      refine WL.nil ⟨hs42, ?_⟩
      refine WG.take 12 rfl (by kernel_rfl) (by kernel_rfl) rfl rfl rfl hs42 (fun w_ hs_ => (Run.idxN Tryz.runUnderlying38 Tryz.sizeOf65 rfl rfl rfl ?_ ?_ ?_)) ?_
      · exact SlF.some_ (SlF.cutC (lo := ((a : Int) * h.W).toNat) (hi := (((a : Int) + 1) * h.W).toNat) (SlF.st0 f_h.Cells (hs_ : St _ _ _ _)) (by refine ⟨?_, ?_, ?_⟩ <;> (omega)))
      · first | omega | (simp; omega)
      · first | omega | (simp; omega)
      refine WG.take 13 rfl (by kernel_rfl) (by kernel_rfl) rfl rfl rfl hs42 (fun w_ hs_ => (Run.loadA Tryz.isAgg65 Tryz.sizeOf65 rfl rfl (SlF.whole (SlF.cutC (lo := ((a : Int) * h.W).toNat) (hi := (((a : Int) + 1) * h.W).toNat) (SlF.st0 f_h.Cells (hs_ : St _ _ _ _)) (by refine ⟨?_, ?_, ?_⟩ <;> (omega))) ?_))) ?_
      · first | omega | (simp; omega)
      refine WG.take 14 rfl (by kernel_rfl) (by kernel_rfl) rfl rfl rfl hs42 (fun w_ hs_ => (Run.idx Tryz.runUnderlying38 Tryz.sizeOf65 rfl rfl rfl ?_ ?_ ?_)) ?_
      · exact SlF.some_ (SlF.cutC (lo := ((y + (a : Int)) * r.W).toNat) (hi := (((y + (a : Int)) + 1) * r.W).toNat) (ownGridR.ok (B := 549755813888) ho30 (fun p_ hp_ => ((hs_ : St _ _ _ _).own p_ (List.mem_append_right [_, _, _, _] (List.mem_append_left _ hp_))).1) hsmr).Cells (by refine ⟨?_, ?_, ?_⟩ <;> (omega)))
      · first | omega | (simp; omega)
      · first | omega | (simp; omega)
      refine WG.all [15] (by kernel_rfl) rfl (WGs.consK rfl ?_ WGs.nil)
      refine WL.storeC (x' := _) (lo := ((y + (a : Int)) * r.W).toNat) (St.perm hs42 (L' := L29 ++ _) (perm_front (A := [_, _, _, _]) (List.Perm.refl _))) ho30 Tryz.sizeOf65 rfl rfl rfl rfl rfl rfl rfl rfl rfl ?_ rfl (fun L43 whs44 hs44 ho45 _ => ?_)
      · first | omega | (simp; omega)
      replace hs44 := St.back [_, _, _, _] hs44
      refine WL.nil ⟨(St.drop (St.perm hs44 (L' := L43 ++ _) (perm_front (A := [_, _, _, _]) (List.Perm.refl _))) (List.sublist_append_right L43 _)), ?_⟩
      refine WH.done (by kernel_rfl) ?_
      refine hK36 _ _ ?_
      refine WC.region ?_
      refine WL.run tbk 2 hs44 [] rfl ⟨by omega, trivial⟩ ?_
      refine WL.nil ?_
      refine tkN ?_
      have hF46 := (St.grp1 (L1 := L43) [_] (St.perm (St.perm (St.perm (St.perm (St.perm hs44 (L' := [_] ++ _) (perm_front (A := [_, _, _]) (List.Perm.refl _))) (L' := [_] ++ _) (perm_front (A := [_, _, _]) (List.Perm.refl _))) (L' := [_] ++ _) (perm_front (A := [_, _, _]) (List.Perm.refl _))) (L' := L43 ++ _) (perm_front (A := [_, _, _, _]) (List.Perm.refl _))) (L' := [_] ++ _) (perm_front (A := L43) (perm_front (A := [_, _, _]) (List.Perm.refl _)))))
      refine ⟨⟨rfl, rfl, rfl, rfl, rfl, rfl, rfl, rfl, rfl, rfl, rfl, rfl, rfl, rfl, rfl, rfl, rfl, rfl, trivial⟩, _, hF46, _, ?_, c + 1, ⟨r.W, r.H, SlD.of ho45⟩, L43, rfl, rfl, ?_, ?_, ?_, ho45, ⟨rfl, trivial⟩⟩
      · omega
      · omega
      · first | exact q1 | exact ⟨q1.1, q1.2.1, by simp only [List.length_set]; exact q1.2.2⟩
      · intro k hk; first | (show cat _ k = pasteTo g.dat h.dat x y (a * h.dat.W.toNat + c + 1) k; have _ := hin; rw [pasteTo_in (g := g.dat) (h := h.dat) hcw haw hin.1 hin.2.1]; show gat encCell (r.Cells.xs.set _ _) k = _; rw [gat_set2 (by omega), hix, gat_cut (by omega), toNat_mul_nat (by omega)]; split; rfl; exact q2 k hk) | (show cat _ k = pasteTo g.dat h.dat x y (a * h.dat.W.toNat + c + 1) k; rw [pasteTo_out (g := g.dat) (h := h.dat) hcw (by show 0 < g.W.toNat; omega) (by show k < g.W.toNat * g.H.toNat; exact hk0 k hk) hout]; exact q2 k hk)
     ·have qh38 := h38
      try simp only [bf, within_iff, within_not] at qh38
      have hout : ¬ ((0 ≤ x + (c : Int) ∧ x + (c : Int) < g.dat.W) ∧ 0 ≤ y + (a : Int) ∧ y + (a : Int) < g.dat.H) := by show ¬ ((0 ≤ x + (c : Int) ∧ x + (c : Int) < g.W) ∧ 0 ≤ y + (a : Int) ∧ y + (a : Int) < g.H); intro h8; have h9 := h38; rw [← Bool.not_eq_true] at h9; apply h9; unfold gridHas; rw [Bool.and_eq_true, within_iff, within_iff]; have e1 : r.dat.W = g.W := q1.1; have e2 : r.dat.H = g.H := q1.2.1; rw [e1, e2]; omega
      refine WC.skip ?_
      refine hK36 _ _ ?_
      refine WC.region ?_
      refine WL.run tbk 2 hs37 [] rfl ⟨by omega, trivial⟩ ?_
      refine WL.nil ?_
      refine tkN ?_
      have hF47 := (St.grp1 (L1 := L29) [_] (St.perm (St.perm (St.perm (St.perm (St.perm hs37 (L' := [_] ++ _) (perm_front (A := [_, _, _]) (List.Perm.refl _))) (L' := [_] ++ _) (perm_front (A := [_, _, _]) (List.Perm.refl _))) (L' := [_] ++ _) (perm_front (A := [_, _, _]) (List.Perm.refl _))) (L' := L29 ++ _) (perm_front (A := [_, _, _, _]) (List.Perm.refl _))) (L' := [_] ++ _) (perm_front (A := L29) (perm_front (A := [_, _, _]) (List.Perm.refl _)))))
      refine ⟨⟨rfl, rfl, rfl, rfl, rfl, rfl, rfl, rfl, rfl, rfl, rfl, rfl, rfl, rfl, rfl, rfl, rfl, rfl, trivial⟩, _, hF47, _, ?_, c + 1, r, L29, rfl, rfl, ?_, ?_, ?_, ho30, ⟨rfl, trivial⟩⟩
      · omega
      · omega
      · first | exact q1 | exact ⟨q1.1, q1.2.1, by simp only [List.length_set]; exact q1.2.2⟩
      · intro k hk; first | (show cat _ k = pasteTo g.dat h.dat x y (a * h.dat.W.toNat + c + 1) k; have _ := hin; rw [pasteTo_in (g := g.dat) (h := h.dat) hcw haw hin.1 hin.2.1]; show gat encCell (r.Cells.xs.set _ _) k = _; rw [gat_set2 (by omega), hix, gat_cut (by omega), toNat_mul_nat (by omega)]; split; rfl; exact q2 k hk) | (show cat _ k = pasteTo g.dat h.dat x y (a * h.dat.W.toNat + c + 1) k; rw [pasteTo_out (g := g.dat) (h := h.dat) hcw (by show 0 < g.W.toNat; omega) (by show k < g.W.toNat * g.H.toNat; exact hk0 k hk) hout]; exact q2 k hk)
    ·have qh35 := h35
     try simp only [bf, within_iff, within_not] at qh35
     refine WC.exit ?_
     refine hK26 _ _ ?_
     refine WC.region ?_
     refine WL.run tbk 2 hs33 [] rfl ⟨by omega, trivial⟩ ?_
     refine WL.nil ?_
     refine tkN ?_
     have hF48 := (St.grp1 (L1 := L29) [_] (St.perm (St.perm (St.perm (St.perm (St.perm hs33 (L' := [_] ++ _) (perm_front (A := [_, _, _]) (List.Perm.refl _))) (L' := [_] ++ _) (perm_front (A := [_, _, _]) (List.Perm.refl _))) (L' := [_] ++ _) (perm_front (A := [_, _, _]) (List.Perm.refl _))) (L' := L29 ++ _) (perm_front (A := [_, _, _, _]) (List.Perm.refl _))) (L' := [_] ++ _) (perm_front (A := L29) (perm_front (A := [_, _, _]) (List.Perm.refl _)))))
     refine ⟨⟨rfl, rfl, rfl, rfl, rfl, rfl, rfl, rfl, rfl, rfl, rfl, rfl, trivial⟩, _, hF48, _, ?_, a + 1, r, L29, rfl, rfl, ?_, ?_, ?_, ho30, ⟨rfl, trivial⟩⟩
     · omega
     · omega
     · exact q1
     · intro k hk; rw [q2 k hk, show c = h.W.toNat by omega, Nat.add_mul, Nat.one_mul]
  ·have qh25 := h25
   try simp only [bf, within_iff, within_not] at qh25
   refine WC.exit ?_
   refine hK16 _ _ ?_
   refine WC.sr ?_
   refine WL.run tbk 1 hs23 [0] rfl ⟨rfl, trivial⟩ ?_
   refine WL.st tbk hs23 1 rfl rfl (fun _ hs49 => ?_)
   refine WL.nil ?_
   refine WC.ret ?_
   refine retV1 rfl (resV.cellA tbk hs49 1 rfl rfl rfl rfl) ?_
   refine ⟨r, _, rfl, (St.keep1 (St.perm hs49 (L' := L19 ++ _) (perm_front (A := [_, _, _, _]) (List.Perm.refl _)))), ?_, ?_⟩
   · exact ho20
   · show GridD.mk r.W r.H r.Cells.xs = _; rw [p1.1, p1.2.1]; unfold gPaste gmap; congr 1; refine ext_gat (F := encCell) (by rw [p1.2.2]; rfl) (fun k hk => ?_); rw [← pasteTo_all (i := a * h.W.toNat) (by show h.H.toNat * h.W.toNat ≤ _; rw [show a = h.H.toNat by omega]; exact Nat.le_refl _)]; exact p2 k hk
end Go.Proofs.YtlmcekfdlgkffaaGreat
