/-
  What the proof stands on, part 6.
-/
import Derived.Test.YtjmegoiclgancaaGreatKE5
namespace Go.Proofs.YtjmegoiclgancaaGreat
open Go Go.RowKit
set_option linter.unusedVariables false
set_option linter.unusedSimpArgs false
theorem c_spec_GridRoll (g : GridR) (top : Int) (bot : Int) (n : Int) (w : World) (f_g : okGridR 549755813888 w g) (hg : gridOk g.dat = true) (ht : 0 ≤ top ∧ top ≤ bot ∧ bot < g.H) (hn : -100000 ≤ n ∧ n ≤ 100000) :
    Calls Tryz.prog 144 #[.agg #[i64 g.W, i64 g.H, .slice g.Cells.A g.Cells.n g.Cells.c], i64 top, i64 bot, i64 n] w fun e w' => ∃ r L1, e = .returned (.agg #[i64 r.W, i64 r.H, .slice r.Cells.A r.Cells.n r.Cells.c]) ∧ St w [] L1 w' ∧ ownGridR r L1 ∧ r.dat = gRoll g.dat top bot n := by
 have nb_g_Cells := f_g.Cells_n
 have nl_g_Cells := f_g.Cells.len
 have hgb : (1 ≤ g.W ∧ g.W ≤ 120) ∧ (1 ≤ g.H ∧ g.H ≤ 120) ∧ 1 ≤ g.W * g.H ∧ g.W * g.H ≤ 4000 := gridOk_bnd hg
 have hgl : (g.Cells.xs.length : Int) = g.W * g.H := grid_len hg
 have hsmg : smGrid 1048576 g.dat := by show g.Cells.xs.length ≤ 1048576; omega
 refine enter (vs := [.agg #[i64 g.W, i64 g.H, .slice g.Cells.A g.Cells.n g.Cells.c], i64 top, i64 bot, i64 n]) 103 Tryz.func144 rfl Tryz.ntmps144 rfl rfl ?_
 have hs1 := St.init w
 refine WC.sr ?_
 refine WL.bx hs1 rfl (fun b2 _ hs3 => ?_)
 refine WL.al hs3 Tryz.zeroValue28 rfl rfl (fun b4 _ hs5 => ?_)
 refine WL.nil ?_
 refine WC.seq (fun K6 hK6 => ?_)
 refine WC.sr ?_
 refine WL.run tbk 1 hs5 [1] rfl ⟨rfl, trivial⟩ ?_
 refine WL.call rfl rfl rfl (Run.call Tryz.call138 rfl rfl rfl) (c_spec_GridOk g _ (okGridR.st0 f_g hs5)) ?_
 rintro _ whs7 ⟨rfl, hs7⟩
 replace hs7 := hs5.call0 hs7
 refine ⟨_, rfl, ?_⟩
 refine WL.run tbk 2 hs7 [] rfl trivial ?_
 refine WL.pO tbk 2 Acts.nil hs7 [] rfl rfl rfl rfl (fun g_ => trivial) ?_
 refine WL.run tbk 1 hs7 [] rfl trivial ?_
 refine WL.pO tbk 3 Acts.nil hs7 [] rfl rfl rfl rfl (fun g_ => trivial) ?_
 refine WL.run tbk 1 hs7 [] rfl trivial ?_
 refine WL.pO tbk 4 Acts.nil hs7 [1] rfl rfl rfl rfl (fun g_ => ⟨rfl, trivial⟩) ?_
 refine WL.nil ?_
 refine WC.cond rfl (fun h8 => ?_) (fun h8 => ?_)
 ·have qh8 := h8
  try simp only [bf, within_iff, within_not] at qh8
  exfalso; have h9 := h8; simp [hg] at h9; omega
 ·have qh8 := h8
  try simp only [bf, within_iff, within_not] at qh8
  refine WC.skip ?_
  refine hK6 _ _ ?_
  refine WC.seq (fun K9 hK9 => ?_)
  refine WC.rr tbk hs7 [1] rfl ⟨rfl, trivial⟩ ?_
  refine WC.cond rfl (fun h10 => ?_) (fun h10 => ?_)
  ·have qh10 := h10
   try simp only [bf, within_iff, within_not] at qh10
   refine WC.region ?_
   refine WL.run tbk 3 hs7 [1] rfl ⟨rfl, trivial⟩ ?_
   refine WL.nil ?_
   refine hK9 _ _ ?_
   refine WC.seq (fun K11 hK11 => ?_)
   refine WC.rr tbk hs7 [1] rfl ⟨by omega, rfl, trivial⟩ ?_
   refine WC.cond rfl (fun h12 => ?_) (fun h12 => ?_)
   ·have qh12 := h12
    try simp only [bf, within_iff, within_not] at qh12
    refine WC.region ?_
    refine WL.run tbk 4 hs7 [1] rfl ⟨by omega, rfl, trivial⟩ ?_
    refine WL.nil ?_
    refine hK11 _ _ ?_
    refine WC.sr ?_
    refine WL.run tbk 1 hs7 [1] rfl ⟨rfl, trivial⟩ ?_
    refine WL.call rfl rfl rfl (Run.call Tryz.call141 rfl rfl rfl) (c_spec_l07Copy g _ (okGridR.st0 f_g hs7) ?_) ?_
    · first | (first | assumption | rfl | omega) | (first | assumption | omega | (exact Nat.le_trans hsmg (by decide)))
    rintro _ whs13 ⟨r14, L1_15, rfl, hs13, ho16, hd17⟩
    replace hs13 := hs7.callF hs13
    refine ⟨_, rfl, ?_⟩
    replace hs13 := St.back [_, _] hs13
    skip
    refine WL.al hs13 Tryz.zeroValue28 rfl rfl (fun b18 _ hs19 => ?_)
    refine WL.st tbk hs19 0 rfl rfl (fun _ hs20 => ?_)
    refine WL.nil ?_
    refine WC.seq (fun K21 hK21 => ?_)
    refine WC.rr tbk hs20 [] rfl trivial ?_
    refine WC.block ?_
    have hM26 := (St.grp1 (L1 := L1_15) [_] (St.perm (St.perm (St.perm (St.perm hs20 (L' := [_] ++ _) (perm_front (A := [_, _]) (List.Perm.refl _))) (L' := [_] ++ _) (perm_front (A := [_, _]) (List.Perm.refl _))) (L' := L1_15 ++ _) (perm_front (A := [_, _, _]) (List.Perm.refl _))) (L' := [_] ++ _) (perm_front (A := L1_15) (perm_front (A := [_, _]) (List.Perm.refl _)))))
    refine WC.loopV (α := Hp) [(1, _), (2, _), (3, _), (4, _), (8, _), (9, _), (29, _), (34, _), (41, _)] ⟨rfl, rfl, rfl, rfl, rfl, rfl, rfl, rfl, rfl, trivial⟩ (fun a_ => a_) _ hM26 (fun k_ (a_ : Hp) f => ∃ (a : Nat) (r : GridR) (L24 : Hp), k_ = (bot - top + 1).toNat - a ∧ a_ = [(b18, .cells (List.toArray [i64 r.W, i64 r.H, .slice r.Cells.A r.Cells.n r.Cells.c]) 28 (0, 0))] ++ L24 ∧ (top + (a : Int) ≤ bot + 1) ∧ (r.W = g.W ∧ r.H = g.H ∧ r.Cells.xs.length = g.Cells.xs.length) ∧ (∀ k, k < g.Cells.xs.length → cat r.Cells.xs k = partF g.dat (rollF g.dat top bot (-g.H)) (top.toNat * g.W.toNat) (a * g.W.toNat) k) ∧ ownGridR r L24 ∧ Sub [(10, .int .i64 (top + a))] f) (((fun (a : Nat) => (bot - top + 1).toNat - a) (0))) ?_ ?_
    ·refine ⟨0, r14, L1_15, rfl, rfl, ?_, ?_, ?_, ho16, ⟨?_, trivial⟩⟩
     · omega
     · exact ⟨congrArg GridD.W hd17, congrArg GridD.H hd17, congrArg (fun d : GridD => d.Cells.length) hd17⟩
     · intro k hk; rw [Nat.zero_mul, partF_zero]; exact congrArg (fun d : GridD => cat d.Cells k) hd17
     · (refine congrArg some (congrArg (Value.int _) ?_); omega)
    ·rintro _ _ f w ⟨a, r, L24, rfl, rfl, p0, p1, p2, ho25, hG⟩ hF hs27
     refine WC.sub _ (hG.app hF) ?_
     clear hG hF
     replace hs27 := St.ungrp1 [_] hs27
     have hs28 := (St.perm (St.perm (St.perm hs27 (L' := [_] ++ _) (perm_front (A := [_]) (perm_front (A := L24) (perm_front (A := [_]) (List.Perm.refl _))))) (L' := [_] ++ _) (perm_front (A := [_, _]) (perm_front (A := L24) (List.Perm.refl _)))) (L' := [_] ++ _) (perm_front (A := [_, _]) (List.Perm.refl _)))
     have hsmr : smGrid 549755813888 r.dat := by show r.Cells.xs.length ≤ 549755813888; omega
     refine WC.seq (fun K29 hK29 => ?_)
     refine WC.rr tbk hs28 [] rfl trivial ?_
     refine WC.cond rfl (fun h30 => ?_) (fun h30 => ?_)
     ·have qh30 := h30
      try simp only [bf, within_iff, within_not] at qh30
      refine WC.skip ?_
      refine hK29 _ _ ?_
      refine WC.seq (fun K31 hK31 => ?_)
      refine WC.block ?_
      refine WC.rr tbk hs28 [] rfl trivial ?_
      refine WC.block ?_
      have hM36 := (St.grp1 (L1 := L24) [_] (St.perm (St.perm (St.perm (St.perm hs28 (L' := [_] ++ _) (perm_front (A := [_, _]) (List.Perm.refl _))) (L' := [_] ++ _) (perm_front (A := [_, _]) (List.Perm.refl _))) (L' := L24 ++ _) (perm_front (A := [_, _, _]) (List.Perm.refl _))) (L' := [_] ++ _) (perm_front (A := L24) (perm_front (A := [_, _]) (List.Perm.refl _)))))
      refine WC.loopV (α := Hp) [(1, _), (2, _), (3, _), (4, _), (8, _), (9, _), (10, _), (29, _), (34, _), (41, _), (48, _), (49, _), (50, _)] ⟨rfl, rfl, rfl, rfl, rfl, rfl, rfl, rfl, rfl, rfl, rfl, rfl, rfl, trivial⟩ (fun a_ => a_) _ hM36 (fun k_ (a_ : Hp) f => ∃ (c : Nat) (r : GridR) (L34 : Hp), k_ = g.W.toNat - c ∧ a_ = [(b18, .cells (List.toArray [i64 r.W, i64 r.H, .slice r.Cells.A r.Cells.n r.Cells.c]) 28 (0, 0))] ++ L34 ∧ ((c : Int) ≤ g.W) ∧ (r.W = g.W ∧ r.H = g.H ∧ r.Cells.xs.length = g.Cells.xs.length) ∧ (∀ k, k < g.Cells.xs.length → cat r.Cells.xs k = partF g.dat (rollF g.dat top bot (-g.H)) (top.toNat * g.W.toNat) (a * g.W.toNat + c) k) ∧ ownGridR r L34 ∧ Sub [(11, .int .i64 c)] f) (((fun (c : Nat) => g.W.toNat - c) (0))) ?_ ?_
      ·refine ⟨0, r, L24, rfl, rfl, ?_, ?_, ?_, ho25, ⟨rfl, trivial⟩⟩
       · omega
       · exact p1
       · rw [Nat.add_zero]; exact p2
      ·rintro _ _ f w ⟨c, r, L34, rfl, rfl, q0, q1, q2, ho35, hG⟩ hF hs37
       refine WC.sub _ (hG.app hF) ?_
       clear hG hF
       replace hs37 := St.ungrp1 [_] hs37
       have hs38 := (St.perm (St.perm (St.perm hs37 (L' := [_] ++ _) (perm_front (A := [_]) (perm_front (A := L34) (perm_front (A := [_]) (List.Perm.refl _))))) (L' := [_] ++ _) (perm_front (A := [_, _]) (perm_front (A := L34) (List.Perm.refl _)))) (L' := [_] ++ _) (perm_front (A := [_, _]) (List.Perm.refl _)))
       have hsmr : smGrid 549755813888 r.dat := by show r.Cells.xs.length ≤ 549755813888; omega
       have hnr := ownGridR.len ‹ownGridR r _›
       refine WC.seq (fun K39 hK39 => ?_)
       refine WC.rr tbk hs38 [2] rfl ⟨rfl, trivial⟩ ?_
       refine WC.cond rfl (fun h40 => ?_) (fun h40 => ?_)
       ·have qh40 := h40
        try simp only [bf, within_iff, within_not] at qh40
        have hcw : (c : Int) < g.W := by omega
        have hab : top + (a : Int) ≤ bot := by omega
        have hv0 : 0 ≤ (top + (a : Int)) * g.W := Int.mul_nonneg (by omega) (by omega)
        have hv1 : (top + (a : Int) + 1) * g.W ≤ g.H * g.W := Int.mul_le_mul_of_nonneg_right (by omega) (by omega)
        rw [Int.add_mul _ 1, Int.one_mul, Int.mul_comm g.H g.W] at hv1
        refine WC.skip ?_
        refine hK39 _ _ ?_
        refine WC.seq (fun K41 hK41 => ?_)
        refine WC.block ?_
        refine WC.seq (fun K42 hK42 => ?_)
        refine WC.regionG 10 (fun w' => St _ _ _ w') (fun w' => St _ _ _ w') (fun w' => St _ _ _ w') mixed (St.drew (St.drop (St.perm hs38 (L' := L34 ++ _) (perm_front (A := [_, _, _]) (List.Perm.refl _))) (List.sublist_append_right L34 _))) (St.drew hs38) (St.drew hs38) (fun whs43 hs43 => ?_)
        replace hs43 : St _ _ _ _ := hs43
        refine WG.take 0 rfl (by kernel_rfl) (by kernel_rfl) rfl rfl rfl hs43 (fun w_ hs_ => (Run.field Tryz.runUnderlying28 rfl rfl rfl Tryz.sizeOf26 rfl)) ?_
        refine WG.take 1 rfl (by kernel_rfl) (by kernel_rfl) rfl rfl rfl hs43 (fun w_ hs_ => (Run.loadL (hs_ : St _ _ _ _) 0 Tryz.isAgg26 rfl rfl rfl rfl)) ?_
        refine WG.take 2 rfl (by kernel_rfl) (by kernel_rfl) rfl rfl rfl hs43 (fun w_ hs_ => (Run.move rfl rfl)) ?_
        refine WG.take 3 rfl (by kernel_rfl) (by kernel_rfl) rfl rfl rfl hs43 (fun w_ hs_ => (Run.field Tryz.runUnderlying28 rfl rfl rfl Tryz.sizeOf3 rfl)) ?_
        refine WG.take 4 rfl (by kernel_rfl) (by kernel_rfl) rfl rfl rfl hs43 (fun w_ hs_ => (Run.loadL (hs_ : St _ _ _ _) 2 Tryz.isAgg3 rfl rfl rfl rfl)) ?_
        refine WG.take 5 rfl (by kernel_rfl) (by kernel_rfl) rfl rfl rfl hs43 (fun w_ hs_ => (Run.mul rfl rfl rfl ?_)) ?_
        · constructor <;> omega
        refine WG.take 6 rfl (by kernel_rfl) (by kernel_rfl) rfl rfl rfl hs43 (fun w_ hs_ => (Run.move rfl rfl)) ?_
        refine WG.take 7 rfl (by kernel_rfl) (by kernel_rfl) rfl rfl rfl hs43 (fun w_ hs_ => (Run.add rfl rfl rfl ?_)) ?_
        · constructor <;> omega
        refine WG.all [8] (by kernel_rfl) rfl (WGs.cons (i := 8) rfl rfl ?_ WGs.nil)
        refine WL.call rfl rfl rfl (Run.call Tryz.call180 rfl rfl rfl) (c_spec_l07Blank _) ?_
        rintro _ whs45 ⟨rfl, hs45⟩
        replace hs45 := hs43.call0 hs45
        refine ⟨_, rfl, ?_⟩
        refine WL.nil ⟨hs45, ?_⟩
        refine WG.take 9 rfl (by kernel_rfl) (by kernel_rfl) rfl rfl rfl hs45 (fun w_ hs_ => (Run.idx Tryz.runUnderlying26 Tryz.sizeOf75 rfl rfl rfl ?_ ?_ ?_)) ?_
        · exact SlF.some_ (ownGridR.ok (B := 549755813888) ho35 (fun p_ hp_ => ((hs_ : St _ _ _ _).own p_ (List.mem_append_right [_, _, _] (List.mem_append_left _ hp_))).1) hsmr).Cells
        · first | omega | (simp only [List.length_set]; omega)
        · first | omega | (simp only [List.length_set]; omega)
        refine WG.all [10] (by kernel_rfl) rfl (WGs.consK rfl ?_ WGs.nil)
        refine WL.storeF1 (x' := blankC) (St.perm hs45 (L' := L34 ++ _) (perm_front (A := [_, _, _]) (List.Perm.refl _))) ho35 Tryz.sizeOf75 rfl rfl rfl rfl rfl rfl rfl rfl rfl ?_ rfl (fun L46 whs47 hs47 ho48 _ => ?_)
        · first | omega | (simp only [List.length_set]; omega)
        replace hs47 := St.back [_, _, _] hs47
        refine WL.nil ⟨(St.drop (St.perm hs47 (L' := L46 ++ _) (perm_front (A := [_, _, _]) (List.Perm.refl _))) (List.sublist_append_right L46 _)), ?_⟩
        refine WH.done (by kernel_rfl) ?_
        refine hK42 _ _ ?_
        refine WC.sr ?_
        refine WL.run tbk 6 hs47 [] rfl ⟨by omega, trivial⟩ ?_
        refine WL.pA tbk 5 Acts.nil hs47 [] rfl rfl rfl rfl (fun g_ => by (try simp only [bf, within_iff, within_not] at g_); exact ⟨by omega, trivial⟩) ?_
        refine WL.nil ?_
        refine WC.cond rfl (fun h49 => ?_) (fun h49 => ?_)
        ·have qh49 := h49
         try simp only [bf, within_iff, within_not] at qh49
         have hin : top ≤ top + (a : Int) + (-g.H) ∧ top + (a : Int) + (-g.H) ≤ bot := by have h9 := h49; simp at h9; omega
         have hu0 : 0 ≤ (top + (a : Int) + (-g.H)) * g.W := Int.mul_nonneg (by omega) (by omega)
         have hu1 : (top + (a : Int) + (-g.H) + 1) * g.W ≤ g.H * g.W := Int.mul_le_mul_of_nonneg_right (by omega) (by omega)
         rw [Int.add_mul _ 1, Int.one_mul, Int.mul_comm g.H g.W] at hu1
         refine WC.regionG 21 (fun w' => St _ _ _ w') (fun w' => St _ _ _ w') (fun w' => St _ _ _ w') mixed (St.drew (St.drop (St.perm hs47 (L' := L46 ++ _) (perm_front (A := [_, _, _]) (List.Perm.refl _))) (List.sublist_append_right L46 _))) (St.drew hs47) (St.drew hs47) (fun whs50 hs50 => ?_)
         replace hs50 : St _ _ _ _ := hs50
         refine WG.take 0 rfl (by kernel_rfl) (by kernel_rfl) rfl rfl rfl hs50 (fun w_ hs_ => (Run.field Tryz.runUnderlying28 rfl rfl rfl Tryz.sizeOf26 rfl)) ?_
         refine WG.take 1 rfl (by kernel_rfl) (by kernel_rfl) rfl rfl rfl hs50 (fun w_ hs_ => (Run.loadL (hs_ : St _ _ _ _) 0 Tryz.isAgg26 rfl rfl rfl rfl)) ?_
         refine WG.take 2 rfl (by kernel_rfl) (by kernel_rfl) rfl rfl rfl hs50 (fun w_ hs_ => (Run.move rfl rfl)) ?_
         refine WG.take 3 rfl (by kernel_rfl) (by kernel_rfl) rfl rfl rfl hs50 (fun w_ hs_ => (Run.field Tryz.runUnderlying28 rfl rfl rfl Tryz.sizeOf3 rfl)) ?_
         refine WG.take 4 rfl (by kernel_rfl) (by kernel_rfl) rfl rfl rfl hs50 (fun w_ hs_ => (Run.loadL (hs_ : St _ _ _ _) 2 Tryz.isAgg3 rfl rfl rfl rfl)) ?_
         refine WG.take 5 rfl (by kernel_rfl) (by kernel_rfl) rfl rfl rfl hs50 (fun w_ hs_ => (Run.mul rfl rfl rfl ?_)) ?_
         · constructor <;> omega
         refine WG.take 6 rfl (by kernel_rfl) (by kernel_rfl) rfl rfl rfl hs50 (fun w_ hs_ => (Run.move rfl rfl)) ?_
         refine WG.take 7 rfl (by kernel_rfl) (by kernel_rfl) rfl rfl rfl hs50 (fun w_ hs_ => (Run.add rfl rfl rfl ?_)) ?_
         · constructor <;> omega
         refine WG.take 8 rfl (by kernel_rfl) (by kernel_rfl) rfl rfl rfl hs50 (fun w_ hs_ => (Run.field Tryz.runUnderlying28 rfl rfl rfl Tryz.sizeOf26 rfl)) ?_
         refine WG.take 9 rfl (by kernel_rfl) (by kernel_rfl) rfl rfl rfl hs50 (fun w_ hs_ => (Run.loadL (hs_ : St _ _ _ _) 2 Tryz.isAgg26 rfl rfl rfl rfl)) ?_
         refine WG.take 10 rfl (by kernel_rfl) (by kernel_rfl) rfl rfl rfl hs50 (fun w_ hs_ => (Run.move rfl rfl)) ?_
         refine WG.take 11 rfl (by kernel_rfl) (by kernel_rfl) rfl rfl rfl hs50 (fun w_ hs_ => (Run.move rfl rfl)) ?_
         refine WG.take 12 rfl (by kernel_rfl) (by kernel_rfl) rfl rfl rfl hs50 (fun w_ hs_ => (Run.add rfl rfl rfl ?_)) ?_
         · constructor <;> omega
         refine WG.take 13 rfl (by kernel_rfl) (by kernel_rfl) rfl rfl rfl hs50 (fun w_ hs_ => (Run.field Tryz.runUnderlying28 rfl rfl rfl Tryz.sizeOf3 rfl)) ?_
         refine WG.take 14 rfl (by kernel_rfl) (by kernel_rfl) rfl rfl rfl hs50 (fun w_ hs_ => (Run.loadL (hs_ : St _ _ _ _) 2 Tryz.isAgg3 rfl rfl rfl rfl)) ?_
         refine WG.take 15 rfl (by kernel_rfl) (by kernel_rfl) rfl rfl rfl hs50 (fun w_ hs_ => (Run.mul rfl rfl rfl ?_)) ?_
         · constructor <;> omega
         refine WG.take 16 rfl (by kernel_rfl) (by kernel_rfl) rfl rfl rfl hs50 (fun w_ hs_ => (Run.move rfl rfl)) ?_
         refine WG.take 17 rfl (by kernel_rfl) (by kernel_rfl) rfl rfl rfl hs50 (fun w_ hs_ => (Run.add rfl rfl rfl ?_)) ?_
         · constructor <;> omega
         refine WG.take 18 rfl (by kernel_rfl) (by kernel_rfl) rfl rfl rfl hs50 (fun w_ hs_ => (Run.idx Tryz.runUnderlying26 Tryz.sizeOf75 rfl rfl rfl ?_ ?_ ?_)) ?_
         · exact SlF.some_ (SlF.st0 f_g.Cells (hs_ : St _ _ _ _))
         · first | omega | (simp only [List.length_set]; omega)
         · first | omega | (simp only [List.length_set]; omega)
         refine WG.take 19 rfl (by kernel_rfl) (by kernel_rfl) rfl rfl rfl hs50 (fun w_ hs_ => (Run.loadA Tryz.isAgg75 Tryz.sizeOf75 rfl rfl (SlF.whole (SlF.st0 f_g.Cells (hs_ : St _ _ _ _)) ?_))) ?_
         · first | omega | (simp only [List.length_set]; omega)
         refine WG.take 20 rfl (by kernel_rfl) (by kernel_rfl) rfl rfl rfl hs50 (fun w_ hs_ => (Run.idx Tryz.runUnderlying26 Tryz.sizeOf75 rfl rfl rfl ?_ ?_ ?_)) ?_
         · exact SlF.some_ (SlF.ofOwn ho48 (fun p_ hp_ => ((hs_ : St _ _ _ _).own p_ (List.mem_append_right [_, _, _] (List.mem_append_left _ hp_))).1))
         · first | omega | (simp only [List.length_set]; omega)
         · first | omega | (simp only [List.length_set]; omega)
         refine WG.all [21] (by kernel_rfl) rfl (WGs.consK rfl ?_ WGs.nil)
         refine WL.storeF1 (x' := _) (St.perm hs50 (L' := L46 ++ _) (perm_front (A := [_, _, _]) (List.Perm.refl _))) ho48 Tryz.sizeOf75 rfl rfl rfl rfl rfl rfl rfl rfl rfl ?_ rfl (fun L52 whs53 hs53 ho54 _ => ?_)
         · first | omega | (simp only [List.length_set]; omega)
         replace hs53 := St.back [_, _, _] hs53
         refine WL.nil ⟨(St.drop (St.perm hs53 (L' := L52 ++ _) (perm_front (A := [_, _, _]) (List.Perm.refl _))) (List.sublist_append_right L52 _)), ?_⟩
         refine WH.done (by kernel_rfl) ?_
         refine hK41 _ _ ?_
         refine WC.region ?_
         refine WL.run tbk 3 hs53 [] rfl ⟨by omega, trivial⟩ ?_
         refine WL.nil ?_
         refine tkN ?_
         have hF55 := (St.grp1 (L1 := L52) [_] (St.perm (St.perm (St.perm (St.perm hs53 (L' := [_] ++ _) (perm_front (A := [_, _]) (List.Perm.refl _))) (L' := [_] ++ _) (perm_front (A := [_, _]) (List.Perm.refl _))) (L' := L52 ++ _) (perm_front (A := [_, _, _]) (List.Perm.refl _))) (L' := [_] ++ _) (perm_front (A := L52) (perm_front (A := [_, _]) (List.Perm.refl _)))))
         refine ⟨⟨rfl, rfl, rfl, rfl, rfl, rfl, rfl, rfl, rfl, rfl, rfl, rfl, rfl, trivial⟩, _, hF55, _, ?_, c + 1, ⟨r.W, r.H, SlD.of ho54⟩, L52, rfl, rfl, ?_, ?_, ?_, ho54, ⟨rfl, trivial⟩⟩
         · omega
         · omega
         · exact ⟨q1.1, q1.2.1, by simp only [List.length_set]; exact q1.2.2⟩
         · intro k hk; first | (show gat encCell ((r.Cells.xs.set _ _).set _ _) k = _; rw [List.set_set]; exact roll_next (g := g.dat) (i := (top + a) * g.W + c) (by omega) rfl (by show 0 ≤ g.W; omega) (by omega) hcw hab (by rw [if_pos (by have h9 := h49; simp at h9; omega)]; rfl) (q2 k hk)) | exact roll_next (g := g.dat) (i := (top + a) * g.W + c) (by omega) rfl (by show 0 ≤ g.W; omega) (by omega) hcw hab (by rw [if_neg (by have h9 := h49; simp at h9; omega)]) (q2 k hk)
        ·have qh49 := h49
         try simp only [bf, within_iff, within_not] at qh49
         refine WC.skip ?_
         refine hK41 _ _ ?_
         refine WC.region ?_
         refine WL.run tbk 3 hs47 [] rfl ⟨by omega, trivial⟩ ?_
         refine WL.nil ?_
         refine tkN ?_
         have hF56 := (St.grp1 (L1 := L46) [_] (St.perm (St.perm (St.perm (St.perm hs47 (L' := [_] ++ _) (perm_front (A := [_, _]) (List.Perm.refl _))) (L' := [_] ++ _) (perm_front (A := [_, _]) (List.Perm.refl _))) (L' := L46 ++ _) (perm_front (A := [_, _, _]) (List.Perm.refl _))) (L' := [_] ++ _) (perm_front (A := L46) (perm_front (A := [_, _]) (List.Perm.refl _)))))
         refine ⟨⟨rfl, rfl, rfl, rfl, rfl, rfl, rfl, rfl, rfl, rfl, rfl, rfl, rfl, trivial⟩, _, hF56, _, ?_, c + 1, ⟨r.W, r.H, SlD.of ho48⟩, L46, rfl, rfl, ?_, ?_, ?_, ho48, ⟨rfl, trivial⟩⟩
         · omega
         · omega
         · exact ⟨q1.1, q1.2.1, by simp only [List.length_set]; exact q1.2.2⟩
         · intro k hk; first | (show gat encCell ((r.Cells.xs.set _ _).set _ _) k = _; rw [List.set_set]; exact roll_next (g := g.dat) (i := (top + a) * g.W + c) (by omega) rfl (by show 0 ≤ g.W; omega) (by omega) hcw hab (by rw [if_pos (by have h9 := h49; simp at h9; omega)]; rfl) (q2 k hk)) | exact roll_next (g := g.dat) (i := (top + a) * g.W + c) (by omega) rfl (by show 0 ≤ g.W; omega) (by omega) hcw hab (by rw [if_neg (by have h9 := h49; simp at h9; omega)]) (q2 k hk)
       ·have qh40 := h40
        try simp only [bf, within_iff, within_not] at qh40
        refine WC.exit ?_
        refine hK31 _ _ ?_
        refine WC.region ?_
        refine WL.run tbk 3 hs38 [] rfl ⟨by omega, trivial⟩ ?_
        refine WL.nil ?_
        refine tkN ?_
        have hF57 := (St.grp1 (L1 := L34) [_] (St.perm (St.perm (St.perm (St.perm hs38 (L' := [_] ++ _) (perm_front (A := [_, _]) (List.Perm.refl _))) (L' := [_] ++ _) (perm_front (A := [_, _]) (List.Perm.refl _))) (L' := L34 ++ _) (perm_front (A := [_, _, _]) (List.Perm.refl _))) (L' := [_] ++ _) (perm_front (A := L34) (perm_front (A := [_, _]) (List.Perm.refl _)))))
        refine ⟨⟨rfl, rfl, rfl, rfl, rfl, rfl, rfl, rfl, rfl, trivial⟩, _, hF57, _, ?_, a + 1, r, L34, rfl, rfl, ?_, ?_, ?_, ho35, ⟨?_, trivial⟩⟩
        · omega
        · omega
        · exact q1
        · intro k hk; rw [q2 k hk, show c = g.W.toNat by omega, Nat.add_mul, Nat.one_mul]
        · (refine congrArg some (congrArg (Value.int _) ?_); omega)
     ·have qh30 := h30
      try simp only [bf, within_iff, within_not] at qh30
      refine WC.exit ?_
      refine hK21 _ _ ?_
      refine WC.sr ?_
      refine WL.run tbk 1 hs28 [0] rfl ⟨rfl, trivial⟩ ?_
      refine WL.st tbk hs28 1 rfl rfl (fun _ hs58 => ?_)
      refine WL.nil ?_
      refine WC.ret ?_
      refine retV1 rfl (resV.cellA tbk hs58 1 rfl rfl rfl rfl) ?_
      refine ⟨r, _, rfl, (St.keep1 (St.perm hs58 (L' := L24 ++ _) (perm_front (A := [_, _, _]) (List.Perm.refl _)))), ?_, ?_⟩
      · exact ho25
      · exact roll_done hg ht.1 ht.2.1 ht.2.2 (m := (-g.H)) (by omega) p1.1 p1.2.1 p1.2.2 (by show n = _ ∨ (g.H ≤ n ∧ g.H ≤ _ ∨ n ≤ -g.H ∧ _ ≤ -g.H); omega) p2
   ·have qh12 := h12
    try simp only [bf, within_iff, within_not] at qh12
    refine WC.skip ?_
    refine hK11 _ _ ?_
    refine WC.sr ?_
    refine WL.run tbk 1 hs7 [1] rfl ⟨rfl, trivial⟩ ?_
    refine WL.call rfl rfl rfl (Run.call Tryz.call141 rfl rfl rfl) (c_spec_l07Copy g _ (okGridR.st0 f_g hs7) ?_) ?_
    · first | (first | assumption | rfl | omega) | (first | assumption | omega | (exact Nat.le_trans hsmg (by decide)))
    rintro _ whs59 ⟨r60, L1_61, rfl, hs59, ho62, hd63⟩
    replace hs59 := hs7.callF hs59
    refine ⟨_, rfl, ?_⟩
    replace hs59 := St.back [_, _] hs59
    skip
    refine WL.al hs59 Tryz.zeroValue28 rfl rfl (fun b64 _ hs65 => ?_)
    refine WL.st tbk hs65 0 rfl rfl (fun _ hs66 => ?_)
    refine WL.nil ?_
    refine WC.seq (fun K67 hK67 => ?_)
    refine WC.rr tbk hs66 [] rfl trivial ?_
    refine WC.block ?_
    have hM72 := (St.grp1 (L1 := L1_61) [_] (St.perm (St.perm (St.perm (St.perm hs66 (L' := [_] ++ _) (perm_front (A := [_, _]) (List.Perm.refl _))) (L' := [_] ++ _) (perm_front (A := [_, _]) (List.Perm.refl _))) (L' := L1_61 ++ _) (perm_front (A := [_, _, _]) (List.Perm.refl _))) (L' := [_] ++ _) (perm_front (A := L1_61) (perm_front (A := [_, _]) (List.Perm.refl _)))))
    refine WC.loopV (α := Hp) [(1, _), (2, _), (3, _), (4, _), (8, _), (9, _), (29, _), (34, _), (41, _)] ⟨rfl, rfl, rfl, rfl, rfl, rfl, rfl, rfl, rfl, trivial⟩ (fun a_ => a_) _ hM72 (fun k_ (a_ : Hp) f => ∃ (a : Nat) (r : GridR) (L70 : Hp), k_ = (bot - top + 1).toNat - a ∧ a_ = [(b64, .cells (List.toArray [i64 r.W, i64 r.H, .slice r.Cells.A r.Cells.n r.Cells.c]) 28 (0, 0))] ++ L70 ∧ (top + (a : Int) ≤ bot + 1) ∧ (r.W = g.W ∧ r.H = g.H ∧ r.Cells.xs.length = g.Cells.xs.length) ∧ (∀ k, k < g.Cells.xs.length → cat r.Cells.xs k = partF g.dat (rollF g.dat top bot g.H) (top.toNat * g.W.toNat) (a * g.W.toNat) k) ∧ ownGridR r L70 ∧ Sub [(10, .int .i64 (top + a))] f) (((fun (a : Nat) => (bot - top + 1).toNat - a) (0))) ?_ ?_
    ·refine ⟨0, r60, L1_61, rfl, rfl, ?_, ?_, ?_, ho62, ⟨?_, trivial⟩⟩
     · omega
     · exact ⟨congrArg GridD.W hd63, congrArg GridD.H hd63, congrArg (fun d : GridD => d.Cells.length) hd63⟩
     · intro k hk; rw [Nat.zero_mul, partF_zero]; exact congrArg (fun d : GridD => cat d.Cells k) hd63
     · (refine congrArg some (congrArg (Value.int _) ?_); omega)
    ·rintro _ _ f w ⟨a, r, L70, rfl, rfl, p0, p1, p2, ho71, hG⟩ hF hs73
     refine WC.sub _ (hG.app hF) ?_
     clear hG hF
     replace hs73 := St.ungrp1 [_] hs73
     have hs74 := (St.perm (St.perm (St.perm hs73 (L' := [_] ++ _) (perm_front (A := [_]) (perm_front (A := L70) (perm_front (A := [_]) (List.Perm.refl _))))) (L' := [_] ++ _) (perm_front (A := [_, _]) (perm_front (A := L70) (List.Perm.refl _)))) (L' := [_] ++ _) (perm_front (A := [_, _]) (List.Perm.refl _)))
     have hsmr : smGrid 549755813888 r.dat := by show r.Cells.xs.length ≤ 549755813888; omega
     refine WC.seq (fun K75 hK75 => ?_)
     refine WC.rr tbk hs74 [] rfl trivial ?_
     refine WC.cond rfl (fun h76 => ?_) (fun h76 => ?_)
     ·have qh76 := h76
      try simp only [bf, within_iff, within_not] at qh76
      refine WC.skip ?_
      refine hK75 _ _ ?_
      refine WC.seq (fun K77 hK77 => ?_)
      refine WC.block ?_
      refine WC.rr tbk hs74 [] rfl trivial ?_
      refine WC.block ?_
      have hM82 := (St.grp1 (L1 := L70) [_] (St.perm (St.perm (St.perm (St.perm hs74 (L' := [_] ++ _) (perm_front (A := [_, _]) (List.Perm.refl _))) (L' := [_] ++ _) (perm_front (A := [_, _]) (List.Perm.refl _))) (L' := L70 ++ _) (perm_front (A := [_, _, _]) (List.Perm.refl _))) (L' := [_] ++ _) (perm_front (A := L70) (perm_front (A := [_, _]) (List.Perm.refl _)))))
      refine WC.loopV (α := Hp) [(1, _), (2, _), (3, _), (4, _), (8, _), (9, _), (10, _), (29, _), (34, _), (41, _), (48, _), (49, _), (50, _)] ⟨rfl, rfl, rfl, rfl, rfl, rfl, rfl, rfl, rfl, rfl, rfl, rfl, rfl, trivial⟩ (fun a_ => a_) _ hM82 (fun k_ (a_ : Hp) f => ∃ (c : Nat) (r : GridR) (L80 : Hp), k_ = g.W.toNat - c ∧ a_ = [(b64, .cells (List.toArray [i64 r.W, i64 r.H, .slice r.Cells.A r.Cells.n r.Cells.c]) 28 (0, 0))] ++ L80 ∧ ((c : Int) ≤ g.W) ∧ (r.W = g.W ∧ r.H = g.H ∧ r.Cells.xs.length = g.Cells.xs.length) ∧ (∀ k, k < g.Cells.xs.length → cat r.Cells.xs k = partF g.dat (rollF g.dat top bot g.H) (top.toNat * g.W.toNat) (a * g.W.toNat + c) k) ∧ ownGridR r L80 ∧ Sub [(11, .int .i64 c)] f) (((fun (c : Nat) => g.W.toNat - c) (0))) ?_ ?_
      ·refine ⟨0, r, L70, rfl, rfl, ?_, ?_, ?_, ho71, ⟨rfl, trivial⟩⟩
       · omega
       · exact p1
       · rw [Nat.add_zero]; exact p2
      ·rintro _ _ f w ⟨c, r, L80, rfl, rfl, q0, q1, q2, ho81, hG⟩ hF hs83
       refine WC.sub _ (hG.app hF) ?_
       clear hG hF
       replace hs83 := St.ungrp1 [_] hs83
       have hs84 := (St.perm (St.perm (St.perm hs83 (L' := [_] ++ _) (perm_front (A := [_]) (perm_front (A := L80) (perm_front (A := [_]) (List.Perm.refl _))))) (L' := [_] ++ _) (perm_front (A := [_, _]) (perm_front (A := L80) (List.Perm.refl _)))) (L' := [_] ++ _) (perm_front (A := [_, _]) (List.Perm.refl _)))
       have hsmr : smGrid 549755813888 r.dat := by show r.Cells.xs.length ≤ 549755813888; omega
       have hnr := ownGridR.len ‹ownGridR r _›
       refine WC.seq (fun K85 hK85 => ?_)
       refine WC.rr tbk hs84 [2] rfl ⟨rfl, trivial⟩ ?_
       refine WC.cond rfl (fun h86 => ?_) (fun h86 => ?_)
       ·have qh86 := h86
        try simp only [bf, within_iff, within_not] at qh86
        have hcw : (c : Int) < g.W := by omega
        have hab : top + (a : Int) ≤ bot := by omega
        have hv0 : 0 ≤ (top + (a : Int)) * g.W := Int.mul_nonneg (by omega) (by omega)
        have hv1 : (top + (a : Int) + 1) * g.W ≤ g.H * g.W := Int.mul_le_mul_of_nonneg_right (by omega) (by omega)
        rw [Int.add_mul _ 1, Int.one_mul, Int.mul_comm g.H g.W] at hv1
        refine WC.skip ?_
        refine hK85 _ _ ?_
        refine WC.seq (fun K87 hK87 => ?_)
        refine WC.block ?_
        refine WC.seq (fun K88 hK88 => ?_)
        refine WC.regionG 10 (fun w' => St _ _ _ w') (fun w' => St _ _ _ w') (fun w' => St _ _ _ w') mixed (St.drew (St.drop (St.perm hs84 (L' := L80 ++ _) (perm_front (A := [_, _, _]) (List.Perm.refl _))) (List.sublist_append_right L80 _))) (St.drew hs84) (St.drew hs84) (fun whs89 hs89 => ?_)
        replace hs89 : St _ _ _ _ := hs89
        refine WG.take 0 rfl (by kernel_rfl) (by kernel_rfl) rfl rfl rfl hs89 (fun w_ hs_ => (Run.field Tryz.runUnderlying28 rfl rfl rfl Tryz.sizeOf26 rfl)) ?_
        refine WG.take 1 rfl (by kernel_rfl) (by kernel_rfl) rfl rfl rfl hs89 (fun w_ hs_ => (Run.loadL (hs_ : St _ _ _ _) 0 Tryz.isAgg26 rfl rfl rfl rfl)) ?_
        refine WG.take 2 rfl (by kernel_rfl) (by kernel_rfl) rfl rfl rfl hs89 (fun w_ hs_ => (Run.move rfl rfl)) ?_
        refine WG.take 3 rfl (by kernel_rfl) (by kernel_rfl) rfl rfl rfl hs89 (fun w_ hs_ => (Run.field Tryz.runUnderlying28 rfl rfl rfl Tryz.sizeOf3 rfl)) ?_
        refine WG.take 4 rfl (by kernel_rfl) (by kernel_rfl) rfl rfl rfl hs89 (fun w_ hs_ => (Run.loadL (hs_ : St _ _ _ _) 2 Tryz.isAgg3 rfl rfl rfl rfl)) ?_
        refine WG.take 5 rfl (by kernel_rfl) (by kernel_rfl) rfl rfl rfl hs89 (fun w_ hs_ => (Run.mul rfl rfl rfl ?_)) ?_
        · constructor <;> omega
        refine WG.take 6 rfl (by kernel_rfl) (by kernel_rfl) rfl rfl rfl hs89 (fun w_ hs_ => (Run.move rfl rfl)) ?_
        refine WG.take 7 rfl (by kernel_rfl) (by kernel_rfl) rfl rfl rfl hs89 (fun w_ hs_ => (Run.add rfl rfl rfl ?_)) ?_
        · constructor <;> omega
        refine WG.all [8] (by kernel_rfl) rfl (WGs.cons (i := 8) rfl rfl ?_ WGs.nil)
        refine WL.call rfl rfl rfl (Run.call Tryz.call180 rfl rfl rfl) (c_spec_l07Blank _) ?_
        rintro _ whs91 ⟨rfl, hs91⟩
        replace hs91 := hs89.call0 hs91
        refine ⟨_, rfl, ?_⟩
        refine WL.nil ⟨hs91, ?_⟩
        refine WG.take 9 rfl (by kernel_rfl) (by kernel_rfl) rfl rfl rfl hs91 (fun w_ hs_ => (Run.idx Tryz.runUnderlying26 Tryz.sizeOf75 rfl rfl rfl ?_ ?_ ?_)) ?_
        · exact SlF.some_ (ownGridR.ok (B := 549755813888) ho81 (fun p_ hp_ => ((hs_ : St _ _ _ _).own p_ (List.mem_append_right [_, _, _] (List.mem_append_left _ hp_))).1) hsmr).Cells
        · first | omega | (simp only [List.length_set]; omega)
        · first | omega | (simp only [List.length_set]; omega)
        refine WG.all [10] (by kernel_rfl) rfl (WGs.consK rfl ?_ WGs.nil)
        refine WL.storeF1 (x' := blankC) (St.perm hs91 (L' := L80 ++ _) (perm_front (A := [_, _, _]) (List.Perm.refl _))) ho81 Tryz.sizeOf75 rfl rfl rfl rfl rfl rfl rfl rfl rfl ?_ rfl (fun L92 whs93 hs93 ho94 _ => ?_)
        · first | omega | (simp only [List.length_set]; omega)
        replace hs93 := St.back [_, _, _] hs93
        refine WL.nil ⟨(St.drop (St.perm hs93 (L' := L92 ++ _) (perm_front (A := [_, _, _]) (List.Perm.refl _))) (List.sublist_append_right L92 _)), ?_⟩
        refine WH.done (by kernel_rfl) ?_
        refine hK88 _ _ ?_
        refine WC.sr ?_
        refine WL.run tbk 6 hs93 [] rfl ⟨by omega, trivial⟩ ?_
        refine WL.pA tbk 5 Acts.nil hs93 [] rfl rfl rfl rfl (fun g_ => by (try simp only [bf, within_iff, within_not] at g_); exact ⟨by omega, trivial⟩) ?_
        refine WL.nil ?_
        refine WC.cond rfl (fun h95 => ?_) (fun h95 => ?_)
        ·have qh95 := h95
         try simp only [bf, within_iff, within_not] at qh95
         have hin : top ≤ top + (a : Int) + g.H ∧ top + (a : Int) + g.H ≤ bot := by have h9 := h95; simp at h9; omega
         have hu0 : 0 ≤ (top + (a : Int) + g.H) * g.W := Int.mul_nonneg (by omega) (by omega)
         have hu1 : (top + (a : Int) + g.H + 1) * g.W ≤ g.H * g.W := Int.mul_le_mul_of_nonneg_right (by omega) (by omega)
         rw [Int.add_mul _ 1, Int.one_mul, Int.mul_comm g.H g.W] at hu1
         refine WC.regionG 21 (fun w' => St _ _ _ w') (fun w' => St _ _ _ w') (fun w' => St _ _ _ w') mixed (St.drew (St.drop (St.perm hs93 (L' := L92 ++ _) (perm_front (A := [_, _, _]) (List.Perm.refl _))) (List.sublist_append_right L92 _))) (St.drew hs93) (St.drew hs93) (fun whs96 hs96 => ?_)
         replace hs96 : St _ _ _ _ := hs96
         refine WG.take 0 rfl (by kernel_rfl) (by kernel_rfl) rfl rfl rfl hs96 (fun w_ hs_ => (Run.field Tryz.runUnderlying28 rfl rfl rfl Tryz.sizeOf26 rfl)) ?_
         refine WG.take 1 rfl (by kernel_rfl) (by kernel_rfl) rfl rfl rfl hs96 (fun w_ hs_ => (Run.loadL (hs_ : St _ _ _ _) 0 Tryz.isAgg26 rfl rfl rfl rfl)) ?_
         refine WG.take 2 rfl (by kernel_rfl) (by kernel_rfl) rfl rfl rfl hs96 (fun w_ hs_ => (Run.move rfl rfl)) ?_
         refine WG.take 3 rfl (by kernel_rfl) (by kernel_rfl) rfl rfl rfl hs96 (fun w_ hs_ => (Run.field Tryz.runUnderlying28 rfl rfl rfl Tryz.sizeOf3 rfl)) ?_
         refine WG.take 4 rfl (by kernel_rfl) (by kernel_rfl) rfl rfl rfl hs96 (fun w_ hs_ => (Run.loadL (hs_ : St _ _ _ _) 2 Tryz.isAgg3 rfl rfl rfl rfl)) ?_
         refine WG.take 5 rfl (by kernel_rfl) (by kernel_rfl) rfl rfl rfl hs96 (fun w_ hs_ => (Run.mul rfl rfl rfl ?_)) ?_
         · constructor <;> omega
         refine WG.take 6 rfl (by kernel_rfl) (by kernel_rfl) rfl rfl rfl hs96 (fun w_ hs_ => (Run.move rfl rfl)) ?_
         refine WG.take 7 rfl (by kernel_rfl) (by kernel_rfl) rfl rfl rfl hs96 (fun w_ hs_ => (Run.add rfl rfl rfl ?_)) ?_
         · constructor <;> omega
         refine WG.take 8 rfl (by kernel_rfl) (by kernel_rfl) rfl rfl rfl hs96 (fun w_ hs_ => (Run.field Tryz.runUnderlying28 rfl rfl rfl Tryz.sizeOf26 rfl)) ?_
         refine WG.take 9 rfl (by kernel_rfl) (by kernel_rfl) rfl rfl rfl hs96 (fun w_ hs_ => (Run.loadL (hs_ : St _ _ _ _) 2 Tryz.isAgg26 rfl rfl rfl rfl)) ?_
         refine WG.take 10 rfl (by kernel_rfl) (by kernel_rfl) rfl rfl rfl hs96 (fun w_ hs_ => (Run.move rfl rfl)) ?_
         refine WG.take 11 rfl (by kernel_rfl) (by kernel_rfl) rfl rfl rfl hs96 (fun w_ hs_ => (Run.move rfl rfl)) ?_
         refine WG.take 12 rfl (by kernel_rfl) (by kernel_rfl) rfl rfl rfl hs96 (fun w_ hs_ => (Run.add rfl rfl rfl ?_)) ?_
         · constructor <;> omega
         refine WG.take 13 rfl (by kernel_rfl) (by kernel_rfl) rfl rfl rfl hs96 (fun w_ hs_ => (Run.field Tryz.runUnderlying28 rfl rfl rfl Tryz.sizeOf3 rfl)) ?_
         refine WG.take 14 rfl (by kernel_rfl) (by kernel_rfl) rfl rfl rfl hs96 (fun w_ hs_ => (Run.loadL (hs_ : St _ _ _ _) 2 Tryz.isAgg3 rfl rfl rfl rfl)) ?_
         refine WG.take 15 rfl (by kernel_rfl) (by kernel_rfl) rfl rfl rfl hs96 (fun w_ hs_ => (Run.mul rfl rfl rfl ?_)) ?_
         · constructor <;> omega
         refine WG.take 16 rfl (by kernel_rfl) (by kernel_rfl) rfl rfl rfl hs96 (fun w_ hs_ => (Run.move rfl rfl)) ?_
         refine WG.take 17 rfl (by kernel_rfl) (by kernel_rfl) rfl rfl rfl hs96 (fun w_ hs_ => (Run.add rfl rfl rfl ?_)) ?_
         · constructor <;> omega
         refine WG.take 18 rfl (by kernel_rfl) (by kernel_rfl) rfl rfl rfl hs96 (fun w_ hs_ => (Run.idx Tryz.runUnderlying26 Tryz.sizeOf75 rfl rfl rfl ?_ ?_ ?_)) ?_
         · exact SlF.some_ (SlF.st0 f_g.Cells (hs_ : St _ _ _ _))
         · first | omega | (simp only [List.length_set]; omega)
         · first | omega | (simp only [List.length_set]; omega)
         refine WG.take 19 rfl (by kernel_rfl) (by kernel_rfl) rfl rfl rfl hs96 (fun w_ hs_ => (Run.loadA Tryz.isAgg75 Tryz.sizeOf75 rfl rfl (SlF.whole (SlF.st0 f_g.Cells (hs_ : St _ _ _ _)) ?_))) ?_
         · first | omega | (simp only [List.length_set]; omega)
         refine WG.take 20 rfl (by kernel_rfl) (by kernel_rfl) rfl rfl rfl hs96 (fun w_ hs_ => (Run.idx Tryz.runUnderlying26 Tryz.sizeOf75 rfl rfl rfl ?_ ?_ ?_)) ?_
         · exact SlF.some_ (SlF.ofOwn ho94 (fun p_ hp_ => ((hs_ : St _ _ _ _).own p_ (List.mem_append_right [_, _, _] (List.mem_append_left _ hp_))).1))
         · first | omega | (simp only [List.length_set]; omega)
         · first | omega | (simp only [List.length_set]; omega)
         refine WG.all [21] (by kernel_rfl) rfl (WGs.consK rfl ?_ WGs.nil)
         refine WL.storeF1 (x' := _) (St.perm hs96 (L' := L92 ++ _) (perm_front (A := [_, _, _]) (List.Perm.refl _))) ho94 Tryz.sizeOf75 rfl rfl rfl rfl rfl rfl rfl rfl rfl ?_ rfl (fun L98 whs99 hs99 ho100 _ => ?_)
         · first | omega | (simp only [List.length_set]; omega)
         replace hs99 := St.back [_, _, _] hs99
         refine WL.nil ⟨(St.drop (St.perm hs99 (L' := L98 ++ _) (perm_front (A := [_, _, _]) (List.Perm.refl _))) (List.sublist_append_right L98 _)), ?_⟩
         refine WH.done (by kernel_rfl) ?_
         refine hK87 _ _ ?_
         refine WC.region ?_
         refine WL.run tbk 3 hs99 [] rfl ⟨by omega, trivial⟩ ?_
         refine WL.nil ?_
         refine tkN ?_
         have hF101 := (St.grp1 (L1 := L98) [_] (St.perm (St.perm (St.perm (St.perm hs99 (L' := [_] ++ _) (perm_front (A := [_, _]) (List.Perm.refl _))) (L' := [_] ++ _) (perm_front (A := [_, _]) (List.Perm.refl _))) (L' := L98 ++ _) (perm_front (A := [_, _, _]) (List.Perm.refl _))) (L' := [_] ++ _) (perm_front (A := L98) (perm_front (A := [_, _]) (List.Perm.refl _)))))
         refine ⟨⟨rfl, rfl, rfl, rfl, rfl, rfl, rfl, rfl, rfl, rfl, rfl, rfl, rfl, trivial⟩, _, hF101, _, ?_, c + 1, ⟨r.W, r.H, SlD.of ho100⟩, L98, rfl, rfl, ?_, ?_, ?_, ho100, ⟨rfl, trivial⟩⟩
         · omega
         · omega
         · exact ⟨q1.1, q1.2.1, by simp only [List.length_set]; exact q1.2.2⟩
         · intro k hk; first | (show gat encCell ((r.Cells.xs.set _ _).set _ _) k = _; rw [List.set_set]; exact roll_next (g := g.dat) (i := (top + a) * g.W + c) (by omega) rfl (by show 0 ≤ g.W; omega) (by omega) hcw hab (by rw [if_pos (by have h9 := h95; simp at h9; omega)]; rfl) (q2 k hk)) | exact roll_next (g := g.dat) (i := (top + a) * g.W + c) (by omega) rfl (by show 0 ≤ g.W; omega) (by omega) hcw hab (by rw [if_neg (by have h9 := h95; simp at h9; omega)]) (q2 k hk)
        ·have qh95 := h95
         try simp only [bf, within_iff, within_not] at qh95
         refine WC.skip ?_
         refine hK87 _ _ ?_
         refine WC.region ?_
         refine WL.run tbk 3 hs93 [] rfl ⟨by omega, trivial⟩ ?_
         refine WL.nil ?_
         refine tkN ?_
         have hF102 := (St.grp1 (L1 := L92) [_] (St.perm (St.perm (St.perm (St.perm hs93 (L' := [_] ++ _) (perm_front (A := [_, _]) (List.Perm.refl _))) (L' := [_] ++ _) (perm_front (A := [_, _]) (List.Perm.refl _))) (L' := L92 ++ _) (perm_front (A := [_, _, _]) (List.Perm.refl _))) (L' := [_] ++ _) (perm_front (A := L92) (perm_front (A := [_, _]) (List.Perm.refl _)))))
         refine ⟨⟨rfl, rfl, rfl, rfl, rfl, rfl, rfl, rfl, rfl, rfl, rfl, rfl, rfl, trivial⟩, _, hF102, _, ?_, c + 1, ⟨r.W, r.H, SlD.of ho94⟩, L92, rfl, rfl, ?_, ?_, ?_, ho94, ⟨rfl, trivial⟩⟩
         · omega
         · omega
         · exact ⟨q1.1, q1.2.1, by simp only [List.length_set]; exact q1.2.2⟩
         · intro k hk; first | (show gat encCell ((r.Cells.xs.set _ _).set _ _) k = _; rw [List.set_set]; exact roll_next (g := g.dat) (i := (top + a) * g.W + c) (by omega) rfl (by show 0 ≤ g.W; omega) (by omega) hcw hab (by rw [if_pos (by have h9 := h95; simp at h9; omega)]; rfl) (q2 k hk)) | exact roll_next (g := g.dat) (i := (top + a) * g.W + c) (by omega) rfl (by show 0 ≤ g.W; omega) (by omega) hcw hab (by rw [if_neg (by have h9 := h95; simp at h9; omega)]) (q2 k hk)
       ·have qh86 := h86
        try simp only [bf, within_iff, within_not] at qh86
        refine WC.exit ?_
        refine hK77 _ _ ?_
        refine WC.region ?_
        refine WL.run tbk 3 hs84 [] rfl ⟨by omega, trivial⟩ ?_
        refine WL.nil ?_
        refine tkN ?_
        have hF103 := (St.grp1 (L1 := L80) [_] (St.perm (St.perm (St.perm (St.perm hs84 (L' := [_] ++ _) (perm_front (A := [_, _]) (List.Perm.refl _))) (L' := [_] ++ _) (perm_front (A := [_, _]) (List.Perm.refl _))) (L' := L80 ++ _) (perm_front (A := [_, _, _]) (List.Perm.refl _))) (L' := [_] ++ _) (perm_front (A := L80) (perm_front (A := [_, _]) (List.Perm.refl _)))))
        refine ⟨⟨rfl, rfl, rfl, rfl, rfl, rfl, rfl, rfl, rfl, trivial⟩, _, hF103, _, ?_, a + 1, r, L80, rfl, rfl, ?_, ?_, ?_, ho81, ⟨?_, trivial⟩⟩
        · omega
        · omega
        · exact q1
        · intro k hk; rw [q2 k hk, show c = g.W.toNat by omega, Nat.add_mul, Nat.one_mul]
        · (refine congrArg some (congrArg (Value.int _) ?_); omega)
     ·have qh76 := h76
      try simp only [bf, within_iff, within_not] at qh76
      refine WC.exit ?_
      refine hK67 _ _ ?_
      refine WC.sr ?_
      refine WL.run tbk 1 hs74 [0] rfl ⟨rfl, trivial⟩ ?_
      refine WL.st tbk hs74 1 rfl rfl (fun _ hs104 => ?_)
      refine WL.nil ?_
      refine WC.ret ?_
      refine retV1 rfl (resV.cellA tbk hs104 1 rfl rfl rfl rfl) ?_
      refine ⟨r, _, rfl, (St.keep1 (St.perm hs104 (L' := L70 ++ _) (perm_front (A := [_, _, _]) (List.Perm.refl _)))), ?_, ?_⟩
      · exact ho71
      · exact roll_done hg ht.1 ht.2.1 ht.2.2 (m := g.H) (by omega) p1.1 p1.2.1 p1.2.2 (by show n = _ ∨ (g.H ≤ n ∧ g.H ≤ _ ∨ n ≤ -g.H ∧ _ ≤ -g.H); omega) p2
  ·have qh10 := h10
   try simp only [bf, within_iff, within_not] at qh10
   refine WC.skip ?_
   refine hK9 _ _ ?_
   refine WC.seq (fun K105 hK105 => ?_)
   refine WC.rr tbk hs7 [1] rfl ⟨by omega, rfl, trivial⟩ ?_
   refine WC.cond rfl (fun h106 => ?_) (fun h106 => ?_)
   ·have qh106 := h106
    try simp only [bf, within_iff, within_not] at qh106
    refine WC.region ?_
    refine WL.run tbk 4 hs7 [1] rfl ⟨by omega, rfl, trivial⟩ ?_
    refine WL.nil ?_
    refine hK105 _ _ ?_
    refine WC.sr ?_
    refine WL.run tbk 1 hs7 [1] rfl ⟨rfl, trivial⟩ ?_
    refine WL.call rfl rfl rfl (Run.call Tryz.call141 rfl rfl rfl) (c_spec_l07Copy g _ (okGridR.st0 f_g hs7) ?_) ?_
    · first | (first | assumption | rfl | omega) | (first | assumption | omega | (exact Nat.le_trans hsmg (by decide)))
    rintro _ whs107 ⟨r108, L1_109, rfl, hs107, ho110, hd111⟩
    replace hs107 := hs7.callF hs107
    refine ⟨_, rfl, ?_⟩
    replace hs107 := St.back [_, _] hs107
    skip
    refine WL.al hs107 Tryz.zeroValue28 rfl rfl (fun b112 _ hs113 => ?_)
    refine WL.st tbk hs113 0 rfl rfl (fun _ hs114 => ?_)
    refine WL.nil ?_
    refine WC.seq (fun K115 hK115 => ?_)
    refine WC.rr tbk hs114 [] rfl trivial ?_
    refine WC.block ?_
    have hM120 := (St.grp1 (L1 := L1_109) [_] (St.perm (St.perm (St.perm (St.perm hs114 (L' := [_] ++ _) (perm_front (A := [_, _]) (List.Perm.refl _))) (L' := [_] ++ _) (perm_front (A := [_, _]) (List.Perm.refl _))) (L' := L1_109 ++ _) (perm_front (A := [_, _, _]) (List.Perm.refl _))) (L' := [_] ++ _) (perm_front (A := L1_109) (perm_front (A := [_, _]) (List.Perm.refl _)))))
    refine WC.loopV (α := Hp) [(1, _), (2, _), (3, _), (4, _), (8, _), (9, _), (29, _), (34, _), (41, _)] ⟨rfl, rfl, rfl, rfl, rfl, rfl, rfl, rfl, rfl, trivial⟩ (fun a_ => a_) _ hM120 (fun k_ (a_ : Hp) f => ∃ (a : Nat) (r : GridR) (L118 : Hp), k_ = (bot - top + 1).toNat - a ∧ a_ = [(b112, .cells (List.toArray [i64 r.W, i64 r.H, .slice r.Cells.A r.Cells.n r.Cells.c]) 28 (0, 0))] ++ L118 ∧ (top + (a : Int) ≤ bot + 1) ∧ (r.W = g.W ∧ r.H = g.H ∧ r.Cells.xs.length = g.Cells.xs.length) ∧ (∀ k, k < g.Cells.xs.length → cat r.Cells.xs k = partF g.dat (rollF g.dat top bot (-g.H)) (top.toNat * g.W.toNat) (a * g.W.toNat) k) ∧ ownGridR r L118 ∧ Sub [(10, .int .i64 (top + a))] f) (((fun (a : Nat) => (bot - top + 1).toNat - a) (0))) ?_ ?_
    ·refine ⟨0, r108, L1_109, rfl, rfl, ?_, ?_, ?_, ho110, ⟨?_, trivial⟩⟩
     · omega
     · exact ⟨congrArg GridD.W hd111, congrArg GridD.H hd111, congrArg (fun d : GridD => d.Cells.length) hd111⟩
     · intro k hk; rw [Nat.zero_mul, partF_zero]; exact congrArg (fun d : GridD => cat d.Cells k) hd111
     · (refine congrArg some (congrArg (Value.int _) ?_); omega)
    ·rintro _ _ f w ⟨a, r, L118, rfl, rfl, p0, p1, p2, ho119, hG⟩ hF hs121
     refine WC.sub _ (hG.app hF) ?_
     clear hG hF
     replace hs121 := St.ungrp1 [_] hs121
     have hs122 := (St.perm (St.perm (St.perm hs121 (L' := [_] ++ _) (perm_front (A := [_]) (perm_front (A := L118) (perm_front (A := [_]) (List.Perm.refl _))))) (L' := [_] ++ _) (perm_front (A := [_, _]) (perm_front (A := L118) (List.Perm.refl _)))) (L' := [_] ++ _) (perm_front (A := [_, _]) (List.Perm.refl _)))
     have hsmr : smGrid 549755813888 r.dat := by show r.Cells.xs.length ≤ 549755813888; omega
     refine WC.seq (fun K123 hK123 => ?_)
     refine WC.rr tbk hs122 [] rfl trivial ?_
     refine WC.cond rfl (fun h124 => ?_) (fun h124 => ?_)
     ·have qh124 := h124
      try simp only [bf, within_iff, within_not] at qh124
      refine WC.skip ?_
      refine hK123 _ _ ?_
      refine WC.seq (fun K125 hK125 => ?_)
      refine WC.block ?_
      refine WC.rr tbk hs122 [] rfl trivial ?_
      refine WC.block ?_
      have hM130 := (St.grp1 (L1 := L118) [_] (St.perm (St.perm (St.perm (St.perm hs122 (L' := [_] ++ _) (perm_front (A := [_, _]) (List.Perm.refl _))) (L' := [_] ++ _) (perm_front (A := [_, _]) (List.Perm.refl _))) (L' := L118 ++ _) (perm_front (A := [_, _, _]) (List.Perm.refl _))) (L' := [_] ++ _) (perm_front (A := L118) (perm_front (A := [_, _]) (List.Perm.refl _)))))
      refine WC.loopV (α := Hp) [(1, _), (2, _), (3, _), (4, _), (8, _), (9, _), (10, _), (29, _), (34, _), (41, _), (48, _), (49, _), (50, _)] ⟨rfl, rfl, rfl, rfl, rfl, rfl, rfl, rfl, rfl, rfl, rfl, rfl, rfl, trivial⟩ (fun a_ => a_) _ hM130 (fun k_ (a_ : Hp) f => ∃ (c : Nat) (r : GridR) (L128 : Hp), k_ = g.W.toNat - c ∧ a_ = [(b112, .cells (List.toArray [i64 r.W, i64 r.H, .slice r.Cells.A r.Cells.n r.Cells.c]) 28 (0, 0))] ++ L128 ∧ ((c : Int) ≤ g.W) ∧ (r.W = g.W ∧ r.H = g.H ∧ r.Cells.xs.length = g.Cells.xs.length) ∧ (∀ k, k < g.Cells.xs.length → cat r.Cells.xs k = partF g.dat (rollF g.dat top bot (-g.H)) (top.toNat * g.W.toNat) (a * g.W.toNat + c) k) ∧ ownGridR r L128 ∧ Sub [(11, .int .i64 c)] f) (((fun (c : Nat) => g.W.toNat - c) (0))) ?_ ?_
      ·refine ⟨0, r, L118, rfl, rfl, ?_, ?_, ?_, ho119, ⟨rfl, trivial⟩⟩
       · omega
       · exact p1
       · rw [Nat.add_zero]; exact p2
      ·rintro _ _ f w ⟨c, r, L128, rfl, rfl, q0, q1, q2, ho129, hG⟩ hF hs131
       refine WC.sub _ (hG.app hF) ?_
       clear hG hF
       replace hs131 := St.ungrp1 [_] hs131
       have hs132 := (St.perm (St.perm (St.perm hs131 (L' := [_] ++ _) (perm_front (A := [_]) (perm_front (A := L128) (perm_front (A := [_]) (List.Perm.refl _))))) (L' := [_] ++ _) (perm_front (A := [_, _]) (perm_front (A := L128) (List.Perm.refl _)))) (L' := [_] ++ _) (perm_front (A := [_, _]) (List.Perm.refl _)))
       have hsmr : smGrid 549755813888 r.dat := by show r.Cells.xs.length ≤ 549755813888; omega
       have hnr := ownGridR.len ‹ownGridR r _›
       refine WC.seq (fun K133 hK133 => ?_)
       refine WC.rr tbk hs132 [2] rfl ⟨rfl, trivial⟩ ?_
       refine WC.cond rfl (fun h134 => ?_) (fun h134 => ?_)
       ·have qh134 := h134
        try simp only [bf, within_iff, within_not] at qh134
        have hcw : (c : Int) < g.W := by omega
        have hab : top + (a : Int) ≤ bot := by omega
        have hv0 : 0 ≤ (top + (a : Int)) * g.W := Int.mul_nonneg (by omega) (by omega)
        have hv1 : (top + (a : Int) + 1) * g.W ≤ g.H * g.W := Int.mul_le_mul_of_nonneg_right (by omega) (by omega)
        rw [Int.add_mul _ 1, Int.one_mul, Int.mul_comm g.H g.W] at hv1
        refine WC.skip ?_
        refine hK133 _ _ ?_
        refine WC.seq (fun K135 hK135 => ?_)
        refine WC.block ?_
        refine WC.seq (fun K136 hK136 => ?_)
        refine WC.regionG 10 (fun w' => St _ _ _ w') (fun w' => St _ _ _ w') (fun w' => St _ _ _ w') mixed (St.drew (St.drop (St.perm hs132 (L' := L128 ++ _) (perm_front (A := [_, _, _]) (List.Perm.refl _))) (List.sublist_append_right L128 _))) (St.drew hs132) (St.drew hs132) (fun whs137 hs137 => ?_)
        replace hs137 : St _ _ _ _ := hs137
        refine WG.take 0 rfl (by kernel_rfl) (by kernel_rfl) rfl rfl rfl hs137 (fun w_ hs_ => (Run.field Tryz.runUnderlying28 rfl rfl rfl Tryz.sizeOf26 rfl)) ?_
        refine WG.take 1 rfl (by kernel_rfl) (by kernel_rfl) rfl rfl rfl hs137 (fun w_ hs_ => (Run.loadL (hs_ : St _ _ _ _) 0 Tryz.isAgg26 rfl rfl rfl rfl)) ?_
        refine WG.take 2 rfl (by kernel_rfl) (by kernel_rfl) rfl rfl rfl hs137 (fun w_ hs_ => (Run.move rfl rfl)) ?_
        refine WG.take 3 rfl (by kernel_rfl) (by kernel_rfl) rfl rfl rfl hs137 (fun w_ hs_ => (Run.field Tryz.runUnderlying28 rfl rfl rfl Tryz.sizeOf3 rfl)) ?_
        refine WG.take 4 rfl (by kernel_rfl) (by kernel_rfl) rfl rfl rfl hs137 (fun w_ hs_ => (Run.loadL (hs_ : St _ _ _ _) 2 Tryz.isAgg3 rfl rfl rfl rfl)) ?_
        refine WG.take 5 rfl (by kernel_rfl) (by kernel_rfl) rfl rfl rfl hs137 (fun w_ hs_ => (Run.mul rfl rfl rfl ?_)) ?_
        · constructor <;> omega
        refine WG.take 6 rfl (by kernel_rfl) (by kernel_rfl) rfl rfl rfl hs137 (fun w_ hs_ => (Run.move rfl rfl)) ?_
        refine WG.take 7 rfl (by kernel_rfl) (by kernel_rfl) rfl rfl rfl hs137 (fun w_ hs_ => (Run.add rfl rfl rfl ?_)) ?_
        · constructor <;> omega
        refine WG.all [8] (by kernel_rfl) rfl (WGs.cons (i := 8) rfl rfl ?_ WGs.nil)
        refine WL.call rfl rfl rfl (Run.call Tryz.call180 rfl rfl rfl) (c_spec_l07Blank _) ?_
        rintro _ whs139 ⟨rfl, hs139⟩
        replace hs139 := hs137.call0 hs139
        refine ⟨_, rfl, ?_⟩
        refine WL.nil ⟨hs139, ?_⟩
        refine WG.take 9 rfl (by kernel_rfl) (by kernel_rfl) rfl rfl rfl hs139 (fun w_ hs_ => (Run.idx Tryz.runUnderlying26 Tryz.sizeOf75 rfl rfl rfl ?_ ?_ ?_)) ?_
        · exact SlF.some_ (ownGridR.ok (B := 549755813888) ho129 (fun p_ hp_ => ((hs_ : St _ _ _ _).own p_ (List.mem_append_right [_, _, _] (List.mem_append_left _ hp_))).1) hsmr).Cells
        · first | omega | (simp only [List.length_set]; omega)
        · first | omega | (simp only [List.length_set]; omega)
        refine WG.all [10] (by kernel_rfl) rfl (WGs.consK rfl ?_ WGs.nil)
        refine WL.storeF1 (x' := blankC) (St.perm hs139 (L' := L128 ++ _) (perm_front (A := [_, _, _]) (List.Perm.refl _))) ho129 Tryz.sizeOf75 rfl rfl rfl rfl rfl rfl rfl rfl rfl ?_ rfl (fun L140 whs141 hs141 ho142 _ => ?_)
        · first | omega | (simp only [List.length_set]; omega)
        replace hs141 := St.back [_, _, _] hs141
        refine WL.nil ⟨(St.drop (St.perm hs141 (L' := L140 ++ _) (perm_front (A := [_, _, _]) (List.Perm.refl _))) (List.sublist_append_right L140 _)), ?_⟩
        refine WH.done (by kernel_rfl) ?_
        refine hK136 _ _ ?_
        refine WC.sr ?_
        refine WL.run tbk 6 hs141 [] rfl ⟨by omega, trivial⟩ ?_
        refine WL.pA tbk 5 Acts.nil hs141 [] rfl rfl rfl rfl (fun g_ => by (try simp only [bf, within_iff, within_not] at g_); exact ⟨by omega, trivial⟩) ?_
        refine WL.nil ?_
        refine WC.cond rfl (fun h143 => ?_) (fun h143 => ?_)
        ·have qh143 := h143
         try simp only [bf, within_iff, within_not] at qh143
         have hin : top ≤ top + (a : Int) + (-g.H) ∧ top + (a : Int) + (-g.H) ≤ bot := by have h9 := h143; simp at h9; omega
         have hu0 : 0 ≤ (top + (a : Int) + (-g.H)) * g.W := Int.mul_nonneg (by omega) (by omega)
         have hu1 : (top + (a : Int) + (-g.H) + 1) * g.W ≤ g.H * g.W := Int.mul_le_mul_of_nonneg_right (by omega) (by omega)
         rw [Int.add_mul _ 1, Int.one_mul, Int.mul_comm g.H g.W] at hu1
         refine WC.regionG 21 (fun w' => St _ _ _ w') (fun w' => St _ _ _ w') (fun w' => St _ _ _ w') mixed (St.drew (St.drop (St.perm hs141 (L' := L140 ++ _) (perm_front (A := [_, _, _]) (List.Perm.refl _))) (List.sublist_append_right L140 _))) (St.drew hs141) (St.drew hs141) (fun whs144 hs144 => ?_)
         replace hs144 : St _ _ _ _ := hs144
         refine WG.take 0 rfl (by kernel_rfl) (by kernel_rfl) rfl rfl rfl hs144 (fun w_ hs_ => (Run.field Tryz.runUnderlying28 rfl rfl rfl Tryz.sizeOf26 rfl)) ?_
         refine WG.take 1 rfl (by kernel_rfl) (by kernel_rfl) rfl rfl rfl hs144 (fun w_ hs_ => (Run.loadL (hs_ : St _ _ _ _) 0 Tryz.isAgg26 rfl rfl rfl rfl)) ?_
         refine WG.take 2 rfl (by kernel_rfl) (by kernel_rfl) rfl rfl rfl hs144 (fun w_ hs_ => (Run.move rfl rfl)) ?_
         refine WG.take 3 rfl (by kernel_rfl) (by kernel_rfl) rfl rfl rfl hs144 (fun w_ hs_ => (Run.field Tryz.runUnderlying28 rfl rfl rfl Tryz.sizeOf3 rfl)) ?_
         refine WG.take 4 rfl (by kernel_rfl) (by kernel_rfl) rfl rfl rfl hs144 (fun w_ hs_ => (Run.loadL (hs_ : St _ _ _ _) 2 Tryz.isAgg3 rfl rfl rfl rfl)) ?_
         refine WG.take 5 rfl (by kernel_rfl) (by kernel_rfl) rfl rfl rfl hs144 (fun w_ hs_ => (Run.mul rfl rfl rfl ?_)) ?_
         · constructor <;> omega
         refine WG.take 6 rfl (by kernel_rfl) (by kernel_rfl) rfl rfl rfl hs144 (fun w_ hs_ => (Run.move rfl rfl)) ?_
         refine WG.take 7 rfl (by kernel_rfl) (by kernel_rfl) rfl rfl rfl hs144 (fun w_ hs_ => (Run.add rfl rfl rfl ?_)) ?_
         · constructor <;> omega
         refine WG.take 8 rfl (by kernel_rfl) (by kernel_rfl) rfl rfl rfl hs144 (fun w_ hs_ => (Run.field Tryz.runUnderlying28 rfl rfl rfl Tryz.sizeOf26 rfl)) ?_
         refine WG.take 9 rfl (by kernel_rfl) (by kernel_rfl) rfl rfl rfl hs144 (fun w_ hs_ => (Run.loadL (hs_ : St _ _ _ _) 2 Tryz.isAgg26 rfl rfl rfl rfl)) ?_
         refine WG.take 10 rfl (by kernel_rfl) (by kernel_rfl) rfl rfl rfl hs144 (fun w_ hs_ => (Run.move rfl rfl)) ?_
         refine WG.take 11 rfl (by kernel_rfl) (by kernel_rfl) rfl rfl rfl hs144 (fun w_ hs_ => (Run.move rfl rfl)) ?_
         refine WG.take 12 rfl (by kernel_rfl) (by kernel_rfl) rfl rfl rfl hs144 (fun w_ hs_ => (Run.add rfl rfl rfl ?_)) ?_
         · constructor <;> omega
         refine WG.take 13 rfl (by kernel_rfl) (by kernel_rfl) rfl rfl rfl hs144 (fun w_ hs_ => (Run.field Tryz.runUnderlying28 rfl rfl rfl Tryz.sizeOf3 rfl)) ?_
         refine WG.take 14 rfl (by kernel_rfl) (by kernel_rfl) rfl rfl rfl hs144 (fun w_ hs_ => (Run.loadL (hs_ : St _ _ _ _) 2 Tryz.isAgg3 rfl rfl rfl rfl)) ?_
         refine WG.take 15 rfl (by kernel_rfl) (by kernel_rfl) rfl rfl rfl hs144 (fun w_ hs_ => (Run.mul rfl rfl rfl ?_)) ?_
         · constructor <;> omega
         refine WG.take 16 rfl (by kernel_rfl) (by kernel_rfl) rfl rfl rfl hs144 (fun w_ hs_ => (Run.move rfl rfl)) ?_
         refine WG.take 17 rfl (by kernel_rfl) (by kernel_rfl) rfl rfl rfl hs144 (fun w_ hs_ => (Run.add rfl rfl rfl ?_)) ?_
         · constructor <;> omega
         refine WG.take 18 rfl (by kernel_rfl) (by kernel_rfl) rfl rfl rfl hs144 (fun w_ hs_ => (Run.idx Tryz.runUnderlying26 Tryz.sizeOf75 rfl rfl rfl ?_ ?_ ?_)) ?_
         · exact SlF.some_ (SlF.st0 f_g.Cells (hs_ : St _ _ _ _))
         · first | omega | (simp only [List.length_set]; omega)
         · first | omega | (simp only [List.length_set]; omega)
         refine WG.take 19 rfl (by kernel_rfl) (by kernel_rfl) rfl rfl rfl hs144 (fun w_ hs_ => (Run.loadA Tryz.isAgg75 Tryz.sizeOf75 rfl rfl (SlF.whole (SlF.st0 f_g.Cells (hs_ : St _ _ _ _)) ?_))) ?_
         · first | omega | (simp only [List.length_set]; omega)
         refine WG.take 20 rfl (by kernel_rfl) (by kernel_rfl) rfl rfl rfl hs144 (fun w_ hs_ => (Run.idx Tryz.runUnderlying26 Tryz.sizeOf75 rfl rfl rfl ?_ ?_ ?_)) ?_
         · exact SlF.some_ (SlF.ofOwn ho142 (fun p_ hp_ => ((hs_ : St _ _ _ _).own p_ (List.mem_append_right [_, _, _] (List.mem_append_left _ hp_))).1))
         · first | omega | (simp only [List.length_set]; omega)
         · first | omega | (simp only [List.length_set]; omega)
         refine WG.all [21] (by kernel_rfl) rfl (WGs.consK rfl ?_ WGs.nil)
         refine WL.storeF1 (x' := _) (St.perm hs144 (L' := L140 ++ _) (perm_front (A := [_, _, _]) (List.Perm.refl _))) ho142 Tryz.sizeOf75 rfl rfl rfl rfl rfl rfl rfl rfl rfl ?_ rfl (fun L146 whs147 hs147 ho148 _ => ?_)
         · first | omega | (simp only [List.length_set]; omega)
         replace hs147 := St.back [_, _, _] hs147
         refine WL.nil ⟨(St.drop (St.perm hs147 (L' := L146 ++ _) (perm_front (A := [_, _, _]) (List.Perm.refl _))) (List.sublist_append_right L146 _)), ?_⟩
         refine WH.done (by kernel_rfl) ?_
         refine hK135 _ _ ?_
         refine WC.region ?_
         refine WL.run tbk 3 hs147 [] rfl ⟨by omega, trivial⟩ ?_
         refine WL.nil ?_
         refine tkN ?_
         have hF149 := (St.grp1 (L1 := L146) [_] (St.perm (St.perm (St.perm (St.perm hs147 (L' := [_] ++ _) (perm_front (A := [_, _]) (List.Perm.refl _))) (L' := [_] ++ _) (perm_front (A := [_, _]) (List.Perm.refl _))) (L' := L146 ++ _) (perm_front (A := [_, _, _]) (List.Perm.refl _))) (L' := [_] ++ _) (perm_front (A := L146) (perm_front (A := [_, _]) (List.Perm.refl _)))))
         refine ⟨⟨rfl, rfl, rfl, rfl, rfl, rfl, rfl, rfl, rfl, rfl, rfl, rfl, rfl, trivial⟩, _, hF149, _, ?_, c + 1, ⟨r.W, r.H, SlD.of ho148⟩, L146, rfl, rfl, ?_, ?_, ?_, ho148, ⟨rfl, trivial⟩⟩
         · omega
         · omega
         · exact ⟨q1.1, q1.2.1, by simp only [List.length_set]; exact q1.2.2⟩
         · intro k hk; first | (show gat encCell ((r.Cells.xs.set _ _).set _ _) k = _; rw [List.set_set]; exact roll_next (g := g.dat) (i := (top + a) * g.W + c) (by omega) rfl (by show 0 ≤ g.W; omega) (by omega) hcw hab (by rw [if_pos (by have h9 := h143; simp at h9; omega)]; rfl) (q2 k hk)) | exact roll_next (g := g.dat) (i := (top + a) * g.W + c) (by omega) rfl (by show 0 ≤ g.W; omega) (by omega) hcw hab (by rw [if_neg (by have h9 := h143; simp at h9; omega)]) (q2 k hk)
        ·have qh143 := h143
         try simp only [bf, within_iff, within_not] at qh143
         refine WC.skip ?_
         refine hK135 _ _ ?_
         refine WC.region ?_
         refine WL.run tbk 3 hs141 [] rfl ⟨by omega, trivial⟩ ?_
         refine WL.nil ?_
         refine tkN ?_
         have hF150 := (St.grp1 (L1 := L140) [_] (St.perm (St.perm (St.perm (St.perm hs141 (L' := [_] ++ _) (perm_front (A := [_, _]) (List.Perm.refl _))) (L' := [_] ++ _) (perm_front (A := [_, _]) (List.Perm.refl _))) (L' := L140 ++ _) (perm_front (A := [_, _, _]) (List.Perm.refl _))) (L' := [_] ++ _) (perm_front (A := L140) (perm_front (A := [_, _]) (List.Perm.refl _)))))
         refine ⟨⟨rfl, rfl, rfl, rfl, rfl, rfl, rfl, rfl, rfl, rfl, rfl, rfl, rfl, trivial⟩, _, hF150, _, ?_, c + 1, ⟨r.W, r.H, SlD.of ho142⟩, L140, rfl, rfl, ?_, ?_, ?_, ho142, ⟨rfl, trivial⟩⟩
         · omega
         · omega
         · exact ⟨q1.1, q1.2.1, by simp only [List.length_set]; exact q1.2.2⟩
         · intro k hk; first | (show gat encCell ((r.Cells.xs.set _ _).set _ _) k = _; rw [List.set_set]; exact roll_next (g := g.dat) (i := (top + a) * g.W + c) (by omega) rfl (by show 0 ≤ g.W; omega) (by omega) hcw hab (by rw [if_pos (by have h9 := h143; simp at h9; omega)]; rfl) (q2 k hk)) | exact roll_next (g := g.dat) (i := (top + a) * g.W + c) (by omega) rfl (by show 0 ≤ g.W; omega) (by omega) hcw hab (by rw [if_neg (by have h9 := h143; simp at h9; omega)]) (q2 k hk)
       ·have qh134 := h134
        try simp only [bf, within_iff, within_not] at qh134
        refine WC.exit ?_
        refine hK125 _ _ ?_
        refine WC.region ?_
        refine WL.run tbk 3 hs132 [] rfl ⟨by omega, trivial⟩ ?_
        refine WL.nil ?_
        refine tkN ?_
        have hF151 := (St.grp1 (L1 := L128) [_] (St.perm (St.perm (St.perm (St.perm hs132 (L' := [_] ++ _) (perm_front (A := [_, _]) (List.Perm.refl _))) (L' := [_] ++ _) (perm_front (A := [_, _]) (List.Perm.refl _))) (L' := L128 ++ _) (perm_front (A := [_, _, _]) (List.Perm.refl _))) (L' := [_] ++ _) (perm_front (A := L128) (perm_front (A := [_, _]) (List.Perm.refl _)))))
        refine ⟨⟨rfl, rfl, rfl, rfl, rfl, rfl, rfl, rfl, rfl, trivial⟩, _, hF151, _, ?_, a + 1, r, L128, rfl, rfl, ?_, ?_, ?_, ho129, ⟨?_, trivial⟩⟩
        · omega
        · omega
        · exact q1
        · intro k hk; rw [q2 k hk, show c = g.W.toNat by omega, Nat.add_mul, Nat.one_mul]
        · (refine congrArg some (congrArg (Value.int _) ?_); omega)
     ·have qh124 := h124
      try simp only [bf, within_iff, within_not] at qh124
      refine WC.exit ?_
      refine hK115 _ _ ?_
      refine WC.sr ?_
      refine WL.run tbk 1 hs122 [0] rfl ⟨rfl, trivial⟩ ?_
      refine WL.st tbk hs122 1 rfl rfl (fun _ hs152 => ?_)
      refine WL.nil ?_
      refine WC.ret ?_
      refine retV1 rfl (resV.cellA tbk hs152 1 rfl rfl rfl rfl) ?_
      refine ⟨r, _, rfl, (St.keep1 (St.perm hs152 (L' := L118 ++ _) (perm_front (A := [_, _, _]) (List.Perm.refl _)))), ?_, ?_⟩
      · exact ho119
      · exact roll_done hg ht.1 ht.2.1 ht.2.2 (m := (-g.H)) (by omega) p1.1 p1.2.1 p1.2.2 (by show n = _ ∨ (g.H ≤ n ∧ g.H ≤ _ ∨ n ≤ -g.H ∧ _ ≤ -g.H); omega) p2
   ·have qh106 := h106
    try simp only [bf, within_iff, within_not] at qh106
    refine WC.skip ?_
    refine hK105 _ _ ?_
    refine WC.sr ?_
    refine WL.run tbk 1 hs7 [1] rfl ⟨rfl, trivial⟩ ?_
    refine WL.call rfl rfl rfl (Run.call Tryz.call141 rfl rfl rfl) (c_spec_l07Copy g _ (okGridR.st0 f_g hs7) ?_) ?_
    · first | (first | assumption | rfl | omega) | (first | assumption | omega | (exact Nat.le_trans hsmg (by decide)))
    rintro _ whs153 ⟨r154, L1_155, rfl, hs153, ho156, hd157⟩
    replace hs153 := hs7.callF hs153
    refine ⟨_, rfl, ?_⟩
    replace hs153 := St.back [_, _] hs153
    skip
    refine WL.al hs153 Tryz.zeroValue28 rfl rfl (fun b158 _ hs159 => ?_)
    refine WL.st tbk hs159 0 rfl rfl (fun _ hs160 => ?_)
    refine WL.nil ?_
    refine WC.seq (fun K161 hK161 => ?_)
    refine WC.rr tbk hs160 [] rfl trivial ?_
    refine WC.block ?_
    have hM166 := (St.grp1 (L1 := L1_155) [_] (St.perm (St.perm (St.perm (St.perm hs160 (L' := [_] ++ _) (perm_front (A := [_, _]) (List.Perm.refl _))) (L' := [_] ++ _) (perm_front (A := [_, _]) (List.Perm.refl _))) (L' := L1_155 ++ _) (perm_front (A := [_, _, _]) (List.Perm.refl _))) (L' := [_] ++ _) (perm_front (A := L1_155) (perm_front (A := [_, _]) (List.Perm.refl _)))))
    refine WC.loopV (α := Hp) [(1, _), (2, _), (3, _), (4, _), (8, _), (9, _), (29, _), (34, _), (41, _)] ⟨rfl, rfl, rfl, rfl, rfl, rfl, rfl, rfl, rfl, trivial⟩ (fun a_ => a_) _ hM166 (fun k_ (a_ : Hp) f => ∃ (a : Nat) (r : GridR) (L164 : Hp), k_ = (bot - top + 1).toNat - a ∧ a_ = [(b158, .cells (List.toArray [i64 r.W, i64 r.H, .slice r.Cells.A r.Cells.n r.Cells.c]) 28 (0, 0))] ++ L164 ∧ (top + (a : Int) ≤ bot + 1) ∧ (r.W = g.W ∧ r.H = g.H ∧ r.Cells.xs.length = g.Cells.xs.length) ∧ (∀ k, k < g.Cells.xs.length → cat r.Cells.xs k = partF g.dat (rollF g.dat top bot n) (top.toNat * g.W.toNat) (a * g.W.toNat) k) ∧ ownGridR r L164 ∧ Sub [(10, .int .i64 (top + a))] f) (((fun (a : Nat) => (bot - top + 1).toNat - a) (0))) ?_ ?_
    ·refine ⟨0, r154, L1_155, rfl, rfl, ?_, ?_, ?_, ho156, ⟨?_, trivial⟩⟩
     · omega
     · exact ⟨congrArg GridD.W hd157, congrArg GridD.H hd157, congrArg (fun d : GridD => d.Cells.length) hd157⟩
     · intro k hk; rw [Nat.zero_mul, partF_zero]; exact congrArg (fun d : GridD => cat d.Cells k) hd157
     · (refine congrArg some (congrArg (Value.int _) ?_); omega)
    ·rintro _ _ f w ⟨a, r, L164, rfl, rfl, p0, p1, p2, ho165, hG⟩ hF hs167
     refine WC.sub _ (hG.app hF) ?_
     clear hG hF
     replace hs167 := St.ungrp1 [_] hs167
     have hs168 := (St.perm (St.perm (St.perm hs167 (L' := [_] ++ _) (perm_front (A := [_]) (perm_front (A := L164) (perm_front (A := [_]) (List.Perm.refl _))))) (L' := [_] ++ _) (perm_front (A := [_, _]) (perm_front (A := L164) (List.Perm.refl _)))) (L' := [_] ++ _) (perm_front (A := [_, _]) (List.Perm.refl _)))
     have hsmr : smGrid 549755813888 r.dat := by show r.Cells.xs.length ≤ 549755813888; omega
     refine WC.seq (fun K169 hK169 => ?_)
     refine WC.rr tbk hs168 [] rfl trivial ?_
     refine WC.cond rfl (fun h170 => ?_) (fun h170 => ?_)
     ·have qh170 := h170
      try simp only [bf, within_iff, within_not] at qh170
      refine WC.skip ?_
      refine hK169 _ _ ?_
      refine WC.seq (fun K171 hK171 => ?_)
      refine WC.block ?_
      refine WC.rr tbk hs168 [] rfl trivial ?_
      refine WC.block ?_
      have hM176 := (St.grp1 (L1 := L164) [_] (St.perm (St.perm (St.perm (St.perm hs168 (L' := [_] ++ _) (perm_front (A := [_, _]) (List.Perm.refl _))) (L' := [_] ++ _) (perm_front (A := [_, _]) (List.Perm.refl _))) (L' := L164 ++ _) (perm_front (A := [_, _, _]) (List.Perm.refl _))) (L' := [_] ++ _) (perm_front (A := L164) (perm_front (A := [_, _]) (List.Perm.refl _)))))
      refine WC.loopV (α := Hp) [(1, _), (2, _), (3, _), (4, _), (8, _), (9, _), (10, _), (29, _), (34, _), (41, _), (48, _), (49, _), (50, _)] ⟨rfl, rfl, rfl, rfl, rfl, rfl, rfl, rfl, rfl, rfl, rfl, rfl, rfl, trivial⟩ (fun a_ => a_) _ hM176 (fun k_ (a_ : Hp) f => ∃ (c : Nat) (r : GridR) (L174 : Hp), k_ = g.W.toNat - c ∧ a_ = [(b158, .cells (List.toArray [i64 r.W, i64 r.H, .slice r.Cells.A r.Cells.n r.Cells.c]) 28 (0, 0))] ++ L174 ∧ ((c : Int) ≤ g.W) ∧ (r.W = g.W ∧ r.H = g.H ∧ r.Cells.xs.length = g.Cells.xs.length) ∧ (∀ k, k < g.Cells.xs.length → cat r.Cells.xs k = partF g.dat (rollF g.dat top bot n) (top.toNat * g.W.toNat) (a * g.W.toNat + c) k) ∧ ownGridR r L174 ∧ Sub [(11, .int .i64 c)] f) (((fun (c : Nat) => g.W.toNat - c) (0))) ?_ ?_
      ·refine ⟨0, r, L164, rfl, rfl, ?_, ?_, ?_, ho165, ⟨rfl, trivial⟩⟩
       · omega
       · exact p1
       · rw [Nat.add_zero]; exact p2
      ·rintro _ _ f w ⟨c, r, L174, rfl, rfl, q0, q1, q2, ho175, hG⟩ hF hs177
       refine WC.sub _ (hG.app hF) ?_
       clear hG hF
       replace hs177 := St.ungrp1 [_] hs177
       have hs178 := (St.perm (St.perm (St.perm hs177 (L' := [_] ++ _) (perm_front (A := [_]) (perm_front (A := L174) (perm_front (A := [_]) (List.Perm.refl _))))) (L' := [_] ++ _) (perm_front (A := [_, _]) (perm_front (A := L174) (List.Perm.refl _)))) (L' := [_] ++ _) (perm_front (A := [_, _]) (List.Perm.refl _)))
       have hsmr : smGrid 549755813888 r.dat := by show r.Cells.xs.length ≤ 549755813888; omega
       have hnr := ownGridR.len ‹ownGridR r _›
       refine WC.seq (fun K179 hK179 => ?_)
       refine WC.rr tbk hs178 [2] rfl ⟨rfl, trivial⟩ ?_
       refine WC.cond rfl (fun h180 => ?_) (fun h180 => ?_)
       ·have qh180 := h180
        try simp only [bf, within_iff, within_not] at qh180
        have hcw : (c : Int) < g.W := by omega
        have hab : top + (a : Int) ≤ bot := by omega
        have hv0 : 0 ≤ (top + (a : Int)) * g.W := Int.mul_nonneg (by omega) (by omega)
        have hv1 : (top + (a : Int) + 1) * g.W ≤ g.H * g.W := Int.mul_le_mul_of_nonneg_right (by omega) (by omega)
        rw [Int.add_mul _ 1, Int.one_mul, Int.mul_comm g.H g.W] at hv1
        refine WC.skip ?_
        refine hK179 _ _ ?_
        refine WC.seq (fun K181 hK181 => ?_)
        refine WC.block ?_
        refine WC.seq (fun K182 hK182 => ?_)
        refine WC.regionG 10 (fun w' => St _ _ _ w') (fun w' => St _ _ _ w') (fun w' => St _ _ _ w') mixed (St.drew (St.drop (St.perm hs178 (L' := L174 ++ _) (perm_front (A := [_, _, _]) (List.Perm.refl _))) (List.sublist_append_right L174 _))) (St.drew hs178) (St.drew hs178) (fun whs183 hs183 => ?_)
        replace hs183 : St _ _ _ _ := hs183
        refine WG.take 0 rfl (by kernel_rfl) (by kernel_rfl) rfl rfl rfl hs183 (fun w_ hs_ => (Run.field Tryz.runUnderlying28 rfl rfl rfl Tryz.sizeOf26 rfl)) ?_
        refine WG.take 1 rfl (by kernel_rfl) (by kernel_rfl) rfl rfl rfl hs183 (fun w_ hs_ => (Run.loadL (hs_ : St _ _ _ _) 0 Tryz.isAgg26 rfl rfl rfl rfl)) ?_
        refine WG.take 2 rfl (by kernel_rfl) (by kernel_rfl) rfl rfl rfl hs183 (fun w_ hs_ => (Run.move rfl rfl)) ?_
        refine WG.take 3 rfl (by kernel_rfl) (by kernel_rfl) rfl rfl rfl hs183 (fun w_ hs_ => (Run.field Tryz.runUnderlying28 rfl rfl rfl Tryz.sizeOf3 rfl)) ?_
        refine WG.take 4 rfl (by kernel_rfl) (by kernel_rfl) rfl rfl rfl hs183 (fun w_ hs_ => (Run.loadL (hs_ : St _ _ _ _) 2 Tryz.isAgg3 rfl rfl rfl rfl)) ?_
        refine WG.take 5 rfl (by kernel_rfl) (by kernel_rfl) rfl rfl rfl hs183 (fun w_ hs_ => (Run.mul rfl rfl rfl ?_)) ?_
        · constructor <;> omega
        refine WG.take 6 rfl (by kernel_rfl) (by kernel_rfl) rfl rfl rfl hs183 (fun w_ hs_ => (Run.move rfl rfl)) ?_
        refine WG.take 7 rfl (by kernel_rfl) (by kernel_rfl) rfl rfl rfl hs183 (fun w_ hs_ => (Run.add rfl rfl rfl ?_)) ?_
        · constructor <;> omega
        refine WG.all [8] (by kernel_rfl) rfl (WGs.cons (i := 8) rfl rfl ?_ WGs.nil)
        refine WL.call rfl rfl rfl (Run.call Tryz.call180 rfl rfl rfl) (c_spec_l07Blank _) ?_
        rintro _ whs185 ⟨rfl, hs185⟩
        replace hs185 := hs183.call0 hs185
        refine ⟨_, rfl, ?_⟩
        refine WL.nil ⟨hs185, ?_⟩
        refine WG.take 9 rfl (by kernel_rfl) (by kernel_rfl) rfl rfl rfl hs185 (fun w_ hs_ => (Run.idx Tryz.runUnderlying26 Tryz.sizeOf75 rfl rfl rfl ?_ ?_ ?_)) ?_
        · exact SlF.some_ (ownGridR.ok (B := 549755813888) ho175 (fun p_ hp_ => ((hs_ : St _ _ _ _).own p_ (List.mem_append_right [_, _, _] (List.mem_append_left _ hp_))).1) hsmr).Cells
        · first | omega | (simp only [List.length_set]; omega)
        · first | omega | (simp only [List.length_set]; omega)
        refine WG.all [10] (by kernel_rfl) rfl (WGs.consK rfl ?_ WGs.nil)
        refine WL.storeF1 (x' := blankC) (St.perm hs185 (L' := L174 ++ _) (perm_front (A := [_, _, _]) (List.Perm.refl _))) ho175 Tryz.sizeOf75 rfl rfl rfl rfl rfl rfl rfl rfl rfl ?_ rfl (fun L186 whs187 hs187 ho188 _ => ?_)
        · first | omega | (simp only [List.length_set]; omega)
        replace hs187 := St.back [_, _, _] hs187
        refine WL.nil ⟨(St.drop (St.perm hs187 (L' := L186 ++ _) (perm_front (A := [_, _, _]) (List.Perm.refl _))) (List.sublist_append_right L186 _)), ?_⟩
        refine WH.done (by kernel_rfl) ?_
        refine hK182 _ _ ?_
        refine WC.sr ?_
        refine WL.run tbk 6 hs187 [] rfl ⟨by omega, trivial⟩ ?_
        refine WL.pA tbk 5 Acts.nil hs187 [] rfl rfl rfl rfl (fun g_ => by (try simp only [bf, within_iff, within_not] at g_); exact ⟨by omega, trivial⟩) ?_
        refine WL.nil ?_
        refine WC.cond rfl (fun h189 => ?_) (fun h189 => ?_)
        ·have qh189 := h189
         try simp only [bf, within_iff, within_not] at qh189
         have hin : top ≤ top + (a : Int) + n ∧ top + (a : Int) + n ≤ bot := by have h9 := h189; simp at h9; omega
         have hu0 : 0 ≤ (top + (a : Int) + n) * g.W := Int.mul_nonneg (by omega) (by omega)
         have hu1 : (top + (a : Int) + n + 1) * g.W ≤ g.H * g.W := Int.mul_le_mul_of_nonneg_right (by omega) (by omega)
         rw [Int.add_mul _ 1, Int.one_mul, Int.mul_comm g.H g.W] at hu1
         refine WC.regionG 21 (fun w' => St _ _ _ w') (fun w' => St _ _ _ w') (fun w' => St _ _ _ w') mixed (St.drew (St.drop (St.perm hs187 (L' := L186 ++ _) (perm_front (A := [_, _, _]) (List.Perm.refl _))) (List.sublist_append_right L186 _))) (St.drew hs187) (St.drew hs187) (fun whs190 hs190 => ?_)
         replace hs190 : St _ _ _ _ := hs190
         refine WG.take 0 rfl (by kernel_rfl) (by kernel_rfl) rfl rfl rfl hs190 (fun w_ hs_ => (Run.field Tryz.runUnderlying28 rfl rfl rfl Tryz.sizeOf26 rfl)) ?_
         refine WG.take 1 rfl (by kernel_rfl) (by kernel_rfl) rfl rfl rfl hs190 (fun w_ hs_ => (Run.loadL (hs_ : St _ _ _ _) 0 Tryz.isAgg26 rfl rfl rfl rfl)) ?_
         refine WG.take 2 rfl (by kernel_rfl) (by kernel_rfl) rfl rfl rfl hs190 (fun w_ hs_ => (Run.move rfl rfl)) ?_
         refine WG.take 3 rfl (by kernel_rfl) (by kernel_rfl) rfl rfl rfl hs190 (fun w_ hs_ => (Run.field Tryz.runUnderlying28 rfl rfl rfl Tryz.sizeOf3 rfl)) ?_
         refine WG.take 4 rfl (by kernel_rfl) (by kernel_rfl) rfl rfl rfl hs190 (fun w_ hs_ => (Run.loadL (hs_ : St _ _ _ _) 2 Tryz.isAgg3 rfl rfl rfl rfl)) ?_
         refine WG.take 5 rfl (by kernel_rfl) (by kernel_rfl) rfl rfl rfl hs190 (fun w_ hs_ => (Run.mul rfl rfl rfl ?_)) ?_
         · constructor <;> omega
         refine WG.take 6 rfl (by kernel_rfl) (by kernel_rfl) rfl rfl rfl hs190 (fun w_ hs_ => (Run.move rfl rfl)) ?_
         refine WG.take 7 rfl (by kernel_rfl) (by kernel_rfl) rfl rfl rfl hs190 (fun w_ hs_ => (Run.add rfl rfl rfl ?_)) ?_
         · constructor <;> omega
         refine WG.take 8 rfl (by kernel_rfl) (by kernel_rfl) rfl rfl rfl hs190 (fun w_ hs_ => (Run.field Tryz.runUnderlying28 rfl rfl rfl Tryz.sizeOf26 rfl)) ?_
         refine WG.take 9 rfl (by kernel_rfl) (by kernel_rfl) rfl rfl rfl hs190 (fun w_ hs_ => (Run.loadL (hs_ : St _ _ _ _) 2 Tryz.isAgg26 rfl rfl rfl rfl)) ?_
         refine WG.take 10 rfl (by kernel_rfl) (by kernel_rfl) rfl rfl rfl hs190 (fun w_ hs_ => (Run.move rfl rfl)) ?_
         refine WG.take 11 rfl (by kernel_rfl) (by kernel_rfl) rfl rfl rfl hs190 (fun w_ hs_ => (Run.move rfl rfl)) ?_
         refine WG.take 12 rfl (by kernel_rfl) (by kernel_rfl) rfl rfl rfl hs190 (fun w_ hs_ => (Run.add rfl rfl rfl ?_)) ?_
         · constructor <;> omega
         refine WG.take 13 rfl (by kernel_rfl) (by kernel_rfl) rfl rfl rfl hs190 (fun w_ hs_ => (Run.field Tryz.runUnderlying28 rfl rfl rfl Tryz.sizeOf3 rfl)) ?_
         refine WG.take 14 rfl (by kernel_rfl) (by kernel_rfl) rfl rfl rfl hs190 (fun w_ hs_ => (Run.loadL (hs_ : St _ _ _ _) 2 Tryz.isAgg3 rfl rfl rfl rfl)) ?_
         refine WG.take 15 rfl (by kernel_rfl) (by kernel_rfl) rfl rfl rfl hs190 (fun w_ hs_ => (Run.mul rfl rfl rfl ?_)) ?_
         · constructor <;> omega
         refine WG.take 16 rfl (by kernel_rfl) (by kernel_rfl) rfl rfl rfl hs190 (fun w_ hs_ => (Run.move rfl rfl)) ?_
         refine WG.take 17 rfl (by kernel_rfl) (by kernel_rfl) rfl rfl rfl hs190 (fun w_ hs_ => (Run.add rfl rfl rfl ?_)) ?_
         · constructor <;> omega
         refine WG.take 18 rfl (by kernel_rfl) (by kernel_rfl) rfl rfl rfl hs190 (fun w_ hs_ => (Run.idx Tryz.runUnderlying26 Tryz.sizeOf75 rfl rfl rfl ?_ ?_ ?_)) ?_
         · exact SlF.some_ (SlF.st0 f_g.Cells (hs_ : St _ _ _ _))
         · first | omega | (simp only [List.length_set]; omega)
         · first | omega | (simp only [List.length_set]; omega)
         refine WG.take 19 rfl (by kernel_rfl) (by kernel_rfl) rfl rfl rfl hs190 (fun w_ hs_ => (Run.loadA Tryz.isAgg75 Tryz.sizeOf75 rfl rfl (SlF.whole (SlF.st0 f_g.Cells (hs_ : St _ _ _ _)) ?_))) ?_
         · first | omega | (simp only [List.length_set]; omega)
         refine WG.take 20 rfl (by kernel_rfl) (by kernel_rfl) rfl rfl rfl hs190 (fun w_ hs_ => (Run.idx Tryz.runUnderlying26 Tryz.sizeOf75 rfl rfl rfl ?_ ?_ ?_)) ?_
         · exact SlF.some_ (SlF.ofOwn ho188 (fun p_ hp_ => ((hs_ : St _ _ _ _).own p_ (List.mem_append_right [_, _, _] (List.mem_append_left _ hp_))).1))
         · first | omega | (simp only [List.length_set]; omega)
         · first | omega | (simp only [List.length_set]; omega)
         refine WG.all [21] (by kernel_rfl) rfl (WGs.consK rfl ?_ WGs.nil)
         refine WL.storeF1 (x' := _) (St.perm hs190 (L' := L186 ++ _) (perm_front (A := [_, _, _]) (List.Perm.refl _))) ho188 Tryz.sizeOf75 rfl rfl rfl rfl rfl rfl rfl rfl rfl ?_ rfl (fun L192 whs193 hs193 ho194 _ => ?_)
         · first | omega | (simp only [List.length_set]; omega)
         replace hs193 := St.back [_, _, _] hs193
         refine WL.nil ⟨(St.drop (St.perm hs193 (L' := L192 ++ _) (perm_front (A := [_, _, _]) (List.Perm.refl _))) (List.sublist_append_right L192 _)), ?_⟩
         refine WH.done (by kernel_rfl) ?_
         refine hK181 _ _ ?_
         refine WC.region ?_
         refine WL.run tbk 3 hs193 [] rfl ⟨by omega, trivial⟩ ?_
         refine WL.nil ?_
         refine tkN ?_
         have hF195 := (St.grp1 (L1 := L192) [_] (St.perm (St.perm (St.perm (St.perm hs193 (L' := [_] ++ _) (perm_front (A := [_, _]) (List.Perm.refl _))) (L' := [_] ++ _) (perm_front (A := [_, _]) (List.Perm.refl _))) (L' := L192 ++ _) (perm_front (A := [_, _, _]) (List.Perm.refl _))) (L' := [_] ++ _) (perm_front (A := L192) (perm_front (A := [_, _]) (List.Perm.refl _)))))
         refine ⟨⟨rfl, rfl, rfl, rfl, rfl, rfl, rfl, rfl, rfl, rfl, rfl, rfl, rfl, trivial⟩, _, hF195, _, ?_, c + 1, ⟨r.W, r.H, SlD.of ho194⟩, L192, rfl, rfl, ?_, ?_, ?_, ho194, ⟨rfl, trivial⟩⟩
         · omega
         · omega
         · exact ⟨q1.1, q1.2.1, by simp only [List.length_set]; exact q1.2.2⟩
         · intro k hk; first | (show gat encCell ((r.Cells.xs.set _ _).set _ _) k = _; rw [List.set_set]; exact roll_next (g := g.dat) (i := (top + a) * g.W + c) (by omega) rfl (by show 0 ≤ g.W; omega) (by omega) hcw hab (by rw [if_pos (by have h9 := h189; simp at h9; omega)]; rfl) (q2 k hk)) | exact roll_next (g := g.dat) (i := (top + a) * g.W + c) (by omega) rfl (by show 0 ≤ g.W; omega) (by omega) hcw hab (by rw [if_neg (by have h9 := h189; simp at h9; omega)]) (q2 k hk)
        ·have qh189 := h189
         try simp only [bf, within_iff, within_not] at qh189
         refine WC.skip ?_
         refine hK181 _ _ ?_
         refine WC.region ?_
         refine WL.run tbk 3 hs187 [] rfl ⟨by omega, trivial⟩ ?_
         refine WL.nil ?_
         refine tkN ?_
         have hF196 := (St.grp1 (L1 := L186) [_] (St.perm (St.perm (St.perm (St.perm hs187 (L' := [_] ++ _) (perm_front (A := [_, _]) (List.Perm.refl _))) (L' := [_] ++ _) (perm_front (A := [_, _]) (List.Perm.refl _))) (L' := L186 ++ _) (perm_front (A := [_, _, _]) (List.Perm.refl _))) (L' := [_] ++ _) (perm_front (A := L186) (perm_front (A := [_, _]) (List.Perm.refl _)))))
         refine ⟨⟨rfl, rfl, rfl, rfl, rfl, rfl, rfl, rfl, rfl, rfl, rfl, rfl, rfl, trivial⟩, _, hF196, _, ?_, c + 1, ⟨r.W, r.H, SlD.of ho188⟩, L186, rfl, rfl, ?_, ?_, ?_, ho188, ⟨rfl, trivial⟩⟩
         · omega
         · omega
         · exact ⟨q1.1, q1.2.1, by simp only [List.length_set]; exact q1.2.2⟩
         · intro k hk; first | (show gat encCell ((r.Cells.xs.set _ _).set _ _) k = _; rw [List.set_set]; exact roll_next (g := g.dat) (i := (top + a) * g.W + c) (by omega) rfl (by show 0 ≤ g.W; omega) (by omega) hcw hab (by rw [if_pos (by have h9 := h189; simp at h9; omega)]; rfl) (q2 k hk)) | exact roll_next (g := g.dat) (i := (top + a) * g.W + c) (by omega) rfl (by show 0 ≤ g.W; omega) (by omega) hcw hab (by rw [if_neg (by have h9 := h189; simp at h9; omega)]) (q2 k hk)
       ·have qh180 := h180
        try simp only [bf, within_iff, within_not] at qh180
        refine WC.exit ?_
        refine hK171 _ _ ?_
        refine WC.region ?_
        refine WL.run tbk 3 hs178 [] rfl ⟨by omega, trivial⟩ ?_
        refine WL.nil ?_
        refine tkN ?_
        have hF197 := (St.grp1 (L1 := L174) [_] (St.perm (St.perm (St.perm (St.perm hs178 (L' := [_] ++ _) (perm_front (A := [_, _]) (List.Perm.refl _))) (L' := [_] ++ _) (perm_front (A := [_, _]) (List.Perm.refl _))) (L' := L174 ++ _) (perm_front (A := [_, _, _]) (List.Perm.refl _))) (L' := [_] ++ _) (perm_front (A := L174) (perm_front (A := [_, _]) (List.Perm.refl _)))))
        refine ⟨⟨rfl, rfl, rfl, rfl, rfl, rfl, rfl, rfl, rfl, trivial⟩, _, hF197, _, ?_, a + 1, r, L174, rfl, rfl, ?_, ?_, ?_, ho175, ⟨?_, trivial⟩⟩
        · omega
        · omega
        · exact q1
        · intro k hk; rw [q2 k hk, show c = g.W.toNat by omega, Nat.add_mul, Nat.one_mul]
        · (refine congrArg some (congrArg (Value.int _) ?_); omega)
     ·have qh170 := h170
      try simp only [bf, within_iff, within_not] at qh170
      refine WC.exit ?_
      refine hK161 _ _ ?_
      refine WC.sr ?_
      refine WL.run tbk 1 hs168 [0] rfl ⟨rfl, trivial⟩ ?_
      refine WL.st tbk hs168 1 rfl rfl (fun _ hs198 => ?_)
      refine WL.nil ?_
      refine WC.ret ?_
      refine retV1 rfl (resV.cellA tbk hs198 1 rfl rfl rfl rfl) ?_
      refine ⟨r, _, rfl, (St.keep1 (St.perm hs198 (L' := L164 ++ _) (perm_front (A := [_, _, _]) (List.Perm.refl _)))), ?_, ?_⟩
      · exact ho165
      · exact roll_done hg ht.1 ht.2.1 ht.2.2 (m := n) (by omega) p1.1 p1.2.1 p1.2.2 (by show n = _ ∨ (g.H ≤ n ∧ g.H ≤ _ ∨ n ≤ -g.H ∧ _ ≤ -g.H); omega) p2
end Go.Proofs.YtjmegoiclgancaaGreat
namespace Go.Proofs.YtjmegoiclgancaaGreat
open Go Go.RowKit
set_option linter.unusedVariables false
set_option linter.unusedSimpArgs false
theorem c_spec_l09Keep (s : ScrR) (L_s : Hp) (y : Nat) (w : World) (o_s : ownScrR s L_s) (h_s : ∀ p, p ∈ L_s → w.heap[p.1]? = some p.2) (hd_ : ((L_s).map (·.1)).Nodup) (hm : gridOk s.Main.dat = true) (hW : s.W = s.Main.W) (hlim : 0 ≤ s.Limit ∧ s.Limit ≤ 1048576) (hb : (s.Back.xs.length : Int) ≤ s.Limit) (hn : (y : Int) < s.Main.H) (hsmB : smScr 549755813888 s.dat) :
    Calls Tryz.prog 231 #[.agg #[i64 s.W, i64 s.H, i64 s.Main.W, i64 s.Main.H, .slice s.Main.Cells.A s.Main.Cells.n s.Main.Cells.c, i64 s.Alt.W, i64 s.Alt.H, .slice s.Alt.Cells.A s.Alt.Cells.n s.Alt.Cells.c, .bool s.OnAlt, i64 s.X, i64 s.Y, .bool s.Wrap, i64 s.A.Fg, i64 s.A.Bg, .bool s.A.Bold, .bool s.A.Under, .bool s.A.Turn, i64 s.Top, i64 s.Bot, .bool s.NoWrap, .bool s.Hide, i64 s.SaveX, i64 s.SaveY, i64 s.SaveA.Fg, i64 s.SaveA.Bg, .bool s.SaveA.Bold, .bool s.SaveA.Under, .bool s.SaveA.Turn, .slice s.Tabs.A s.Tabs.n s.Tabs.c, i64 s.Limit, .slice s.Back.A s.Back.n s.Back.c], .int .i64 y] w fun e w' => ∃ r L1, e = .returned (.agg #[i64 r.W, i64 r.H, i64 r.Main.W, i64 r.Main.H, .slice r.Main.Cells.A r.Main.Cells.n r.Main.Cells.c, i64 r.Alt.W, i64 r.Alt.H, .slice r.Alt.Cells.A r.Alt.Cells.n r.Alt.Cells.c, .bool r.OnAlt, i64 r.X, i64 r.Y, .bool r.Wrap, i64 r.A.Fg, i64 r.A.Bg, .bool r.A.Bold, .bool r.A.Under, .bool r.A.Turn, i64 r.Top, i64 r.Bot, .bool r.NoWrap, .bool r.Hide, i64 r.SaveX, i64 r.SaveY, i64 r.SaveA.Fg, i64 r.SaveA.Bg, .bool r.SaveA.Bold, .bool r.SaveA.Under, .bool r.SaveA.Turn, .slice r.Tabs.A r.Tabs.n r.Tabs.c, i64 r.Limit, .slice r.Back.A r.Back.n r.Back.c]) ∧ St w ((L_s).map (·.1)) L1 w' ∧ ownScrR r L1 ∧ r.dat = keepOne s.dat y := by
 have hgb : (1 ≤ s.Main.W ∧ s.Main.W ≤ 120) ∧ (1 ≤ s.Main.H ∧ s.Main.H ≤ 120) ∧ 1 ≤ s.Main.W * s.Main.H ∧ s.Main.W * s.Main.H ≤ 4000 := gridOk_bnd hm
 have hgl : (s.Main.Cells.xs.length : Int) = s.Main.W * s.Main.H := by have h_ := hm; unfold gridOk at h_; rw [Bool.and_eq_true, Bool.and_eq_true, decide_eq_true_eq] at h_; exact h_.1.2
 obtain ⟨⟨hrn1, hrn2⟩, _, _, hrn3, hrn4⟩ := ownScrR.lens o_s
 have hv0 : 0 ≤ (y : Int) * s.W := Int.mul_nonneg (by omega) (by omega)
 have hv1 : ((y : Int) + 1) * s.W = (y : Int) * s.W + s.W := by rw [Int.add_mul, Int.one_mul]
 have hv2 : ((y : Int) + 1) * s.W ≤ s.Main.H * s.Main.W := by rw [hW]; exact Int.mul_le_mul_of_nonneg_right (by omega) (by omega)
 rw [Int.mul_comm s.Main.H] at hv2
 have hrow : (RowD.mk ((s.Main.Cells.xs.drop ((y : Int) * s.W).toNat).take ((((y : Int) * s.W) + s.W).toNat - ((y : Int) * s.W).toNat))) = rowAt s.dat.Main y := by
   have e1 : ((y : Int) * s.W).toNat = y * s.Main.W.toNat := by rw [hW]; exact toNat_mul_nat (by omega)
   have e2 : (((y : Int) * s.W) + s.W).toNat - y * s.Main.W.toNat = s.Main.W.toNat := by rw [← e1]; omega
   rw [e1, e2]; rfl
 refine enter (vs := [.agg #[i64 s.W, i64 s.H, i64 s.Main.W, i64 s.Main.H, .slice s.Main.Cells.A s.Main.Cells.n s.Main.Cells.c, i64 s.Alt.W, i64 s.Alt.H, .slice s.Alt.Cells.A s.Alt.Cells.n s.Alt.Cells.c, .bool s.OnAlt, i64 s.X, i64 s.Y, .bool s.Wrap, i64 s.A.Fg, i64 s.A.Bg, .bool s.A.Bold, .bool s.A.Under, .bool s.A.Turn, i64 s.Top, i64 s.Bot, .bool s.NoWrap, .bool s.Hide, i64 s.SaveX, i64 s.SaveY, i64 s.SaveA.Fg, i64 s.SaveA.Bg, .bool s.SaveA.Bold, .bool s.SaveA.Under, .bool s.SaveA.Turn, .slice s.Tabs.A s.Tabs.n s.Tabs.c, i64 s.Limit, .slice s.Back.A s.Back.n s.Back.c], .int .i64 y]) 45 Tryz.func231 rfl Tryz.ntmps231 rfl rfl ?_
 have hs1 := St.takes1 w L_s h_s hd_
 refine WC.sr ?_
 refine WL.bx hs1 rfl (fun b2 _ hs3 => ?_)
 refine WL.al hs3 Tryz.zeroValue33 rfl rfl (fun b4 _ hs5 => ?_)
 refine WL.nil ?_
 refine WC.seq (fun K6 hK6 => ?_)
 refine WC.regionG 23 (fun w' => St _ _ _ w') (fun w' => St _ _ _ w') (fun w' => St _ _ _ w') mixed (St.drew (St.drop (St.perm (St.drop hs5 (List.Sublist.cons_cons _ (List.Sublist.cons _ (List.Sublist.refl _)))) (L' := L_s ++ _) (perm_front (A := [_]) (List.Perm.refl _))) (List.sublist_append_right L_s _))) (St.drew (St.drop (St.perm hs5 (L' := L_s ++ _) (perm_front (A := [_, _]) (List.Perm.refl _))) (List.sublist_append_right L_s _))) (St.drew hs5) (fun whs7 hs7 => ?_)
 replace hs7 : St _ _ _ _ := hs7
 refine WG.take 0 rfl (by kernel_rfl) (by kernel_rfl) rfl rfl rfl (St.drop (St.perm hs7 (L' := L_s ++ _) (perm_front (A := [_, _]) (List.Perm.refl _))) (List.sublist_append_right L_s _)) (fun w_ hs_ => (Run.field Tryz.runUnderlying33 rfl rfl rfl Tryz.sizeOf31 rfl)) ?_
 refine WG.take 1 rfl (by kernel_rfl) (by kernel_rfl) rfl rfl rfl (St.drop (St.perm hs7 (L' := L_s ++ _) (perm_front (A := [_, _]) (List.Perm.refl _))) (List.sublist_append_right L_s _)) (fun w_ hs_ => (Run.loadL (hs_ : St _ _ _ _) 1 Tryz.isAgg31 rfl rfl rfl rfl)) ?_
 refine WG.take 3 rfl (by kernel_rfl) (by kernel_rfl) rfl rfl rfl (St.drop (St.perm hs7 (L' := L_s ++ _) (perm_front (A := [_, _]) (List.Perm.refl _))) (List.sublist_append_right L_s _)) (fun w_ hs_ => (Run.field Tryz.runUnderlying33 rfl rfl rfl Tryz.sizeOf28 rfl)) ?_
 refine WG.take 4 rfl (by kernel_rfl) (by kernel_rfl) rfl rfl rfl (St.drop (St.perm hs7 (L' := L_s ++ _) (perm_front (A := [_, _]) (List.Perm.refl _))) (List.sublist_append_right L_s _)) (fun w_ hs_ => (Run.field Tryz.runUnderlying28 rfl rfl rfl Tryz.sizeOf26 rfl)) ?_
 refine WG.take 5 rfl (by kernel_rfl) (by kernel_rfl) rfl rfl rfl (St.drop (St.perm hs7 (L' := L_s ++ _) (perm_front (A := [_, _]) (List.Perm.refl _))) (List.sublist_append_right L_s _)) (fun w_ hs_ => (Run.loadL (hs_ : St _ _ _ _) 1 Tryz.isAgg26 rfl rfl rfl rfl)) ?_
 refine WG.take 6 rfl (by kernel_rfl) (by kernel_rfl) rfl rfl rfl (St.drop (St.perm hs7 (L' := L_s ++ _) (perm_front (A := [_, _]) (List.Perm.refl _))) (List.sublist_append_right L_s _)) (fun w_ hs_ => (Run.move rfl rfl)) ?_
 refine WG.take 7 rfl (by kernel_rfl) (by kernel_rfl) rfl rfl rfl (St.drop (St.perm hs7 (L' := L_s ++ _) (perm_front (A := [_, _]) (List.Perm.refl _))) (List.sublist_append_right L_s _)) (fun w_ hs_ => (Run.field Tryz.runUnderlying33 rfl rfl rfl Tryz.sizeOf3 rfl)) ?_
 refine WG.take 8 rfl (by kernel_rfl) (by kernel_rfl) rfl rfl rfl (St.drop (St.perm hs7 (L' := L_s ++ _) (perm_front (A := [_, _]) (List.Perm.refl _))) (List.sublist_append_right L_s _)) (fun w_ hs_ => (Run.loadL (hs_ : St _ _ _ _) 1 Tryz.isAgg3 rfl rfl rfl rfl)) ?_
 refine WG.take 9 rfl (by kernel_rfl) (by kernel_rfl) rfl rfl rfl (St.drop (St.perm hs7 (L' := L_s ++ _) (perm_front (A := [_, _]) (List.Perm.refl _))) (List.sublist_append_right L_s _)) (fun w_ hs_ => (Run.mul rfl rfl rfl ?_)) ?_
 · constructor <;> first | omega | (simp only [List.length_append, List.length_singleton] at *; omega)
 refine WG.take 10 rfl (by kernel_rfl) (by kernel_rfl) rfl rfl rfl (St.drop (St.perm hs7 (L' := L_s ++ _) (perm_front (A := [_, _]) (List.Perm.refl _))) (List.sublist_append_right L_s _)) (fun w_ hs_ => (Run.move rfl rfl)) ?_
 refine WG.take 11 rfl (by kernel_rfl) (by kernel_rfl) rfl rfl rfl (St.drop (St.perm hs7 (L' := L_s ++ _) (perm_front (A := [_, _]) (List.Perm.refl _))) (List.sublist_append_right L_s _)) (fun w_ hs_ => (Run.field Tryz.runUnderlying33 rfl rfl rfl Tryz.sizeOf3 rfl)) ?_
 refine WG.take 12 rfl (by kernel_rfl) (by kernel_rfl) rfl rfl rfl (St.drop (St.perm hs7 (L' := L_s ++ _) (perm_front (A := [_, _]) (List.Perm.refl _))) (List.sublist_append_right L_s _)) (fun w_ hs_ => (Run.loadL (hs_ : St _ _ _ _) 1 Tryz.isAgg3 rfl rfl rfl rfl)) ?_
 refine WG.take 13 rfl (by kernel_rfl) (by kernel_rfl) rfl rfl rfl (St.drop (St.perm hs7 (L' := L_s ++ _) (perm_front (A := [_, _]) (List.Perm.refl _))) (List.sublist_append_right L_s _)) (fun w_ hs_ => (Run.mul rfl rfl rfl ?_)) ?_
 · constructor <;> first | omega | (simp only [List.length_append, List.length_singleton] at *; omega)
 refine WG.take 14 rfl (by kernel_rfl) (by kernel_rfl) rfl rfl rfl (St.drop (St.perm hs7 (L' := L_s ++ _) (perm_front (A := [_, _]) (List.Perm.refl _))) (List.sublist_append_right L_s _)) (fun w_ hs_ => (Run.field Tryz.runUnderlying33 rfl rfl rfl Tryz.sizeOf3 rfl)) ?_
 refine WG.take 15 rfl (by kernel_rfl) (by kernel_rfl) rfl rfl rfl (St.drop (St.perm hs7 (L' := L_s ++ _) (perm_front (A := [_, _]) (List.Perm.refl _))) (List.sublist_append_right L_s _)) (fun w_ hs_ => (Run.loadL (hs_ : St _ _ _ _) 1 Tryz.isAgg3 rfl rfl rfl rfl)) ?_
 refine WG.take 16 rfl (by kernel_rfl) (by kernel_rfl) rfl rfl rfl (St.drop (St.perm hs7 (L' := L_s ++ _) (perm_front (A := [_, _]) (List.Perm.refl _))) (List.sublist_append_right L_s _)) (fun w_ hs_ => (Run.add rfl rfl rfl ?_)) ?_
 · constructor <;> first | omega | (simp only [List.length_append, List.length_singleton] at *; omega)
 refine WG.take 17 rfl (by kernel_rfl) (by kernel_rfl) rfl rfl rfl (St.drop (St.perm hs7 (L' := L_s ++ _) (perm_front (A := [_, _]) (List.Perm.refl _))) (List.sublist_append_right L_s _)) (fun w_ hs_ => (Run.sliceLH (((y : Int) * s.W).toNat) (((y : Int) * s.W + s.W).toNat) Tryz.runUnderlying26 Tryz.sizeOf75 rfl rfl rfl rfl ?_ ?_ ?_)) ?_
 · first | rfl | (first | omega | (simp only [List.length_append, List.length_singleton] at *; omega))
 · first | rfl | (first | omega | (simp only [List.length_append, List.length_singleton] at *; omega))
 · refine ⟨?_, ?_, ?_⟩ <;> (first | omega | (simp only [List.length_append, List.length_singleton] at *; omega))
 refine WG.all [2] (by kernel_rfl) rfl (WGs.cons (i := 2) rfl rfl ?_ WGs.nil)
 refine WL.buildF (F := encCell) hs7 ([]) Tryz.runUnderlying26 Tryz.sizeOf75 Tryz.zeroValue75 rfl rfl rfl rfl rfl rfl rfl rfl rfl rfl rfl rfl (fun A12 c13 L9 whs10 hs10 ho11 => ?_)
 replace hs10 := St.back [_, _] hs10
 refine WL.nil ⟨(St.drop (St.perm (St.drop (St.perm hs10 (L' := L9 ++ _) (perm_front (A := [_, _]) (List.Perm.refl _))) (List.sublist_append_right L9 _)) (L' := L_s ++ _) (perm_front (A := [_, _]) (List.Perm.refl _))) (List.sublist_append_right L_s _)), ?_⟩
 refine WG.all [18] (by kernel_rfl) rfl (WGs.cons (i := 18) rfl rfl ?_ WGs.nil)
 refine WL.appendG (St.perm hs10 (L' := L9 ++ _) (perm_front (A := [_, _]) (List.Perm.refl _))) ho11 (SlF.src (SlF.cutC (lo := ((y : Int) * s.W).toNat) (hi := ((y : Int) * s.W + s.W).toNat) (ownScrR.ok (B := 549755813888) o_s (fun p_ hp_ => (hs10.own p_ (List.mem_append_right [_, _] (List.mem_append_right _ (List.mem_append_left _ hp_)))).1) (by assumption)).Main.Cells (by refine ⟨?_, ?_, ?_⟩ <;> (first | omega | (simp only [List.length_append, List.length_singleton] at *; omega)))) Tryz.underlying26) Tryz.underlying26 info_75 rfl rfl rfl rfl rfl rfl rfl rfl rfl rfl ?_ (fun A17 c18 L14 whs15 hs15 ho16 => ?_)
 · (try simp only [List.length_append, List.length_take, List.length_drop, List.length_nil, List.nil_append, List.length_singleton]); omega
 replace hs15 := St.back [_, _] hs15
 refine WL.nil ⟨(St.drop (St.perm (St.drop (St.perm hs15 (L' := L14 ++ _) (perm_front (A := [_, _]) (List.Perm.refl _))) (List.sublist_append_right L14 _)) (L' := L_s ++ _) (perm_front (A := [_, _]) (List.Perm.refl _))) (List.sublist_append_right L_s _)), ?_⟩
 refine WG.take 19 rfl (by kernel_rfl) (by kernel_rfl) rfl rfl rfl (St.drop (St.perm (St.drop (St.perm hs15 (L' := L14 ++ _) (perm_front (A := [_, _]) (List.Perm.refl _))) (List.sublist_append_right L14 _)) (L' := L_s ++ _) (perm_front (A := [_, _]) (List.Perm.refl _))) (List.sublist_append_right L_s _)) (fun w_ hs_ => (Run.build rfl rfl rfl rfl (built_98_0 _ _ _))) ?_
 refine WG.all [20] (by kernel_rfl) rfl (WGs.cons (i := 20) rfl rfl ?_ WGs.nil)
 refine WL.buildSlice hs15 Tryz.runUnderlying31 Tryz.sizeOf98 Tryz.zeroValue98 rfl rfl rfl rfl rfl rfl rfl rfl rfl rfl (fun b19 whs20 hs20 => ?_)
 refine WL.nil ⟨(St.drop (St.perm (St.drop (St.perm (St.drop hs20 (List.sublist_append_right [_] _)) (L' := L14 ++ _) (perm_front (A := [_, _]) (List.Perm.refl _))) (List.sublist_append_right L14 _)) (L' := L_s ++ _) (perm_front (A := [_, _]) (List.Perm.refl _))) (List.sublist_append_right L_s _)), ?_⟩
 refine WG.all [21] (by kernel_rfl) rfl (WGs.cons (i := 21) rfl rfl ?_ WGs.nil)
 obtain ⟨L21, L22, L23, L24, hs29, ho25, ho26, ho27, ho28⟩ := ownScrR.open_ (St.perm hs20 (L' := L_s ++ _) (perm_front (A := [_, _, _]) (perm_front (A := L14) (List.Perm.refl _)))) o_s
 have hs30 := (St.perm (St.perm (St.perm hs29 (L' := [_] ++ _) (perm_front (A := L21) (perm_front (A := L22) (perm_front (A := L23) (perm_front (A := L24) (perm_front (A := [_, _]) (List.Perm.refl _))))))) (L' := [_] ++ _) (perm_front (A := [_]) (perm_front (A := L21) (perm_front (A := L22) (perm_front (A := L23) (perm_front (A := L24) (perm_front (A := [_]) (List.Perm.refl _)))))))) (L' := [_] ++ _) (perm_front (A := [_, _]) (perm_front (A := L21) (perm_front (A := L22) (perm_front (A := L23) (perm_front (A := L24) (List.Perm.refl _)))))))
 obtain ⟨L31, L32, hs35, ho33, ho34⟩ := OwnN.open_ (St.perm hs30 (L' := L24 ++ _) (perm_front (A := [_, _, _]) (perm_front (A := L21) (perm_front (A := L22) (perm_front (A := L23) (List.Perm.refl _)))))) ho28
 have hs36 := (St.perm (St.perm (St.perm hs35 (L' := [_] ++ _) (perm_front (A := L31) (perm_front (A := L32) (perm_front (A := [_, _]) (List.Perm.refl _))))) (L' := [_] ++ _) (perm_front (A := [_]) (perm_front (A := L31) (perm_front (A := L32) (perm_front (A := [_]) (List.Perm.refl _)))))) (L' := [_] ++ _) (perm_front (A := [_, _]) (perm_front (A := L31) (perm_front (A := L32) (List.Perm.refl _)))))
 refine WL.appendG (St.perm hs36 (L' := L31 ++ _) (perm_front (A := [_, _, _]) (List.Perm.refl _))) ho33 (srcF (F := encRowR) (ys := [(⟨SlD.of ho16⟩ : RowR)]) Tryz.underlying31 rfl rfl (hs36.own _ (nthL_mem (i := 0) rfl)).1) Tryz.underlying31 info_98 rfl rfl rfl rfl rfl rfl rfl rfl rfl rfl ?_ (fun A40 c41 L37 whs38 hs38 ho39 => ?_)
 · (try simp only [List.length_append, List.length_take, List.length_drop, List.length_nil, List.nil_append, List.length_singleton]); omega
 replace hs38 := St.back [_, _, _] hs38
 obtain ⟨L42, hs43, hb44⟩ := Bag.put (x := (⟨SlD.of ho16⟩ : RowR)) (St.perm (St.perm hs38 (L' := L14 ++ _) (perm_front (A := [_, _, _]) (perm_front (A := L37) (perm_front (A := L32) (perm_front (A := L21) (perm_front (A := L22) (perm_front (A := L23) (List.Perm.refl _)))))))) (L' := L32 ++ _) (perm_front (A := L14) (perm_front (A := [_, _, _]) (perm_front (A := L37) (List.Perm.refl _))))) ho34 ho16
 have hs45 := (St.perm (St.perm (St.perm hs43 (L' := [_] ++ _) (perm_front (A := L42) (perm_front (A := [_, _]) (List.Perm.refl _)))) (L' := [_] ++ _) (perm_front (A := [_]) (perm_front (A := L42) (perm_front (A := [_]) (List.Perm.refl _))))) (L' := [_] ++ _) (perm_front (A := [_, _]) (perm_front (A := L42) (List.Perm.refl _))))
 obtain ⟨L47, hs46, ho48⟩ := OwnN.fold (St.perm (St.perm hs45 (L' := L42 ++ _) (perm_front (A := [_, _, _]) (List.Perm.refl _))) (L' := L37 ++ _) (perm_front (A := L42) (perm_front (A := [_, _, _]) (List.Perm.refl _)))) ho39 hb44
 have hs49 := (St.perm (St.perm (St.perm hs46 (L' := [_] ++ _) (perm_front (A := L47) (perm_front (A := [_, _]) (List.Perm.refl _)))) (L' := [_] ++ _) (perm_front (A := [_]) (perm_front (A := L47) (perm_front (A := [_]) (List.Perm.refl _))))) (L' := [_] ++ _) (perm_front (A := [_, _]) (perm_front (A := L47) (List.Perm.refl _))))
 refine WL.nil ⟨(St.drop (St.perm (St.drop (St.perm (St.drop (St.perm (St.drop (St.perm (St.drop hs49 (List.sublist_append_right [_] _)) (L' := L47 ++ _) (perm_front (A := [_, _]) (List.Perm.refl _))) (List.sublist_append_right L47 _)) (L' := L21 ++ _) (perm_front (A := [_, _]) (List.Perm.refl _))) (List.sublist_append_right L21 _)) (L' := L22 ++ _) (perm_front (A := [_, _]) (List.Perm.refl _))) (List.sublist_append_right L22 _)) (L' := L23 ++ _) (perm_front (A := [_, _]) (List.Perm.refl _))) (List.sublist_append_right L23 _)), ?_⟩
 refine WG.take 22 rfl (by kernel_rfl) (by kernel_rfl) rfl rfl rfl (St.drop (St.perm (St.drop (St.perm (St.drop (St.perm (St.drop (St.perm (St.drop hs49 (List.sublist_append_right [_] _)) (L' := L47 ++ _) (perm_front (A := [_, _]) (List.Perm.refl _))) (List.sublist_append_right L47 _)) (L' := L21 ++ _) (perm_front (A := [_, _]) (List.Perm.refl _))) (List.sublist_append_right L21 _)) (L' := L22 ++ _) (perm_front (A := [_, _]) (List.Perm.refl _))) (List.sublist_append_right L22 _)) (L' := L23 ++ _) (perm_front (A := [_, _]) (List.Perm.refl _))) (List.sublist_append_right L23 _)) (fun w_ hs_ => (Run.field Tryz.runUnderlying33 rfl rfl rfl Tryz.sizeOf31 rfl)) ?_
 refine WG.all [23] (by kernel_rfl) rfl (WGs.consK rfl ?_ WGs.nil)
 refine WL.st tbk hs49 2 rfl rfl (fun _ hs50 => ?_)
 refine WL.nil ⟨(St.drop (St.perm (St.drop (St.perm (St.drop (St.perm (St.drop (St.perm (St.drop hs50 (List.Sublist.cons _ (List.Sublist.cons_cons _ (List.Sublist.cons _ (List.Sublist.refl _))))) (L' := L47 ++ _) (perm_front (A := [_]) (List.Perm.refl _))) (List.sublist_append_right L47 _)) (L' := L21 ++ _) (perm_front (A := [_]) (List.Perm.refl _))) (List.sublist_append_right L21 _)) (L' := L22 ++ _) (perm_front (A := [_]) (List.Perm.refl _))) (List.sublist_append_right L22 _)) (L' := L23 ++ _) (perm_front (A := [_]) (List.Perm.refl _))) (List.sublist_append_right L23 _)), ?_⟩
 refine WH.done (by kernel_rfl) ?_
 refine hK6 _ _ ?_
 refine WC.seq (fun K51 hK51 => ?_)
 refine WC.rr tbk hs50 [2, 2] rfl ⟨rfl, rfl, trivial⟩ ?_
 refine WC.cD rfl (fun qh52 => ?_) (fun qh52 => ?_)
 ·refine WC.region ?_
  refine WL.run tbk 8 hs50 [2, 2, 2] rfl ⟨by first | omega | (simp only [List.length_append, List.length_singleton] at *; omega), rfl, rfl, rfl, trivial⟩ ?_
  have hcN := OwnN.cap ho48
  have hlN := OwnN.len_ ho48
  refine WL.val rfl rfl rfl (Run.sliceL (s.Back.xs.length + 1 - s.Limit.toNat) Tryz.runUnderlying31 Tryz.sizeOf98 rfl rfl rfl ?_ ?_) ?_
  · first | omega | (simp only [List.length_append, List.length_singleton] at *; omega)
  · refine ⟨?_, ?_, ?_⟩ <;> (first | omega | (simp only [List.length_append, List.length_singleton] at *; omega))
  obtain ⟨L53, hs54, ho55⟩ := OwnN.dropE (k := s.Back.xs.length + 1 - s.Limit.toNat) ho48 (by first | omega | (simp only [List.length_append, List.length_singleton] at *; omega)) (St.perm hs50 (L' := L47 ++ _) (perm_front (A := [_, _, _]) (List.Perm.refl _)))
  have hs56 := (St.perm (St.perm (St.perm hs54 (L' := [_] ++ _) (perm_front (A := L53) (perm_front (A := [_, _]) (List.Perm.refl _)))) (L' := [_] ++ _) (perm_front (A := [_]) (perm_front (A := L53) (perm_front (A := [_]) (List.Perm.refl _))))) (L' := [_] ++ _) (perm_front (A := [_, _]) (perm_front (A := L53) (List.Perm.refl _))))
  refine WL.run tbk 1 hs56 [] rfl trivial ?_
  refine WL.st tbk hs56 2 rfl rfl (fun _ hs57 => ?_)
  refine WL.nil ?_
  refine hK51 _ _ ?_
  refine WC.sr ?_
  refine WL.run tbk 1 hs57 [2] rfl ⟨rfl, trivial⟩ ?_
  refine WL.st tbk hs57 1 rfl rfl (fun _ hs58 => ?_)
  refine WL.nil ?_
  refine WC.ret ?_
  refine retV1 rfl (resV.cellA tbk hs58 1 rfl rfl rfl rfl) ?_
  obtain ⟨L60, hs59, ho61⟩ := ownScrR.fold ⟨0, 0, ⟨0, 0, ⟨_, _, _, _⟩⟩, ⟨0, 0, ⟨_, _, _, _⟩⟩, false, 0, 0, false, ⟨0, 0, false, false, false⟩, 0, 0, false, false, 0, 0, ⟨0, 0, false, false, false⟩, ⟨_, _, _, _⟩, 0, ⟨_, _, _, _⟩⟩ (St.perm (St.perm (St.perm (St.perm hs58 (L' := L53 ++ _) (perm_front (A := [_, _, _]) (List.Perm.refl _))) (L' := L23 ++ _) (perm_front (A := L53) (perm_front (A := [_, _, _]) (perm_front (A := L21) (perm_front (A := L22) (List.Perm.refl _)))))) (L' := L22 ++ _) (perm_front (A := L23) (perm_front (A := L53) (perm_front (A := [_, _, _]) (perm_front (A := L21) (List.Perm.refl _)))))) (L' := L21 ++ _) (perm_front (A := L22) (perm_front (A := L23) (perm_front (A := L53) (perm_front (A := [_, _, _]) (List.Perm.refl _)))))) ho25 ho26 ho27 ho55
  have hs62 := (St.perm (St.perm (St.perm hs59 (L' := [_] ++ _) (perm_front (A := L60) (perm_front (A := [_, _]) (List.Perm.refl _)))) (L' := [_] ++ _) (perm_front (A := [_]) (perm_front (A := L60) (perm_front (A := [_]) (List.Perm.refl _))))) (L' := [_] ++ _) (perm_front (A := [_, _]) (perm_front (A := L60) (List.Perm.refl _))))
  refine ⟨⟨s.W, s.H, ⟨s.Main.W, s.Main.H, SlD.of ho25⟩, ⟨s.Alt.W, s.Alt.H, SlD.of ho26⟩, s.OnAlt, s.X, s.Y, s.Wrap, ⟨s.A.Fg, s.A.Bg, s.A.Bold, s.A.Under, s.A.Turn⟩, s.Top, s.Bot, s.NoWrap, s.Hide, s.SaveX, s.SaveY, ⟨s.SaveA.Fg, s.SaveA.Bg, s.SaveA.Bold, s.SaveA.Under, s.SaveA.Turn⟩, SlD.of ho27, s.Limit, SlD.ofN ho55⟩, _, rfl, (St.keep1 (St.perm hs62 (L' := L60 ++ _) (perm_front (A := [_, _, _]) (List.Perm.refl _)))), ?_, ?_⟩
  · exact (by exact ho61)
  · rw [← keepOne_drop (k := s.Back.xs.length + 1 - s.Limit.toNat) (by show _ = (s.Back.xs.map RowR.dat).length + 1 - s.Limit.toNat; rw [List.length_map]), ← hrow]; simp only [ScrR.dat, List.map_drop, List.map_append]; rfl
 ·refine WC.skip ?_
  refine hK51 _ _ ?_
  refine WC.sr ?_
  refine WL.run tbk 1 hs50 [2] rfl ⟨rfl, trivial⟩ ?_
  refine WL.st tbk hs50 1 rfl rfl (fun _ hs63 => ?_)
  refine WL.nil ?_
  refine WC.ret ?_
  refine retV1 rfl (resV.cellA tbk hs63 1 rfl rfl rfl rfl) ?_
  obtain ⟨L65, hs64, ho66⟩ := ownScrR.fold ⟨0, 0, ⟨0, 0, ⟨_, _, _, _⟩⟩, ⟨0, 0, ⟨_, _, _, _⟩⟩, false, 0, 0, false, ⟨0, 0, false, false, false⟩, 0, 0, false, false, 0, 0, ⟨0, 0, false, false, false⟩, ⟨_, _, _, _⟩, 0, ⟨_, _, _, _⟩⟩ (St.perm (St.perm (St.perm (St.perm hs63 (L' := L47 ++ _) (perm_front (A := [_, _, _]) (List.Perm.refl _))) (L' := L23 ++ _) (perm_front (A := L47) (perm_front (A := [_, _, _]) (perm_front (A := L21) (perm_front (A := L22) (List.Perm.refl _)))))) (L' := L22 ++ _) (perm_front (A := L23) (perm_front (A := L47) (perm_front (A := [_, _, _]) (perm_front (A := L21) (List.Perm.refl _)))))) (L' := L21 ++ _) (perm_front (A := L22) (perm_front (A := L23) (perm_front (A := L47) (perm_front (A := [_, _, _]) (List.Perm.refl _)))))) ho25 ho26 ho27 ho48
  have hs67 := (St.perm (St.perm (St.perm hs64 (L' := [_] ++ _) (perm_front (A := L65) (perm_front (A := [_, _]) (List.Perm.refl _)))) (L' := [_] ++ _) (perm_front (A := [_]) (perm_front (A := L65) (perm_front (A := [_]) (List.Perm.refl _))))) (L' := [_] ++ _) (perm_front (A := [_, _]) (perm_front (A := L65) (List.Perm.refl _))))
  refine ⟨⟨s.W, s.H, ⟨s.Main.W, s.Main.H, SlD.of ho25⟩, ⟨s.Alt.W, s.Alt.H, SlD.of ho26⟩, s.OnAlt, s.X, s.Y, s.Wrap, ⟨s.A.Fg, s.A.Bg, s.A.Bold, s.A.Under, s.A.Turn⟩, s.Top, s.Bot, s.NoWrap, s.Hide, s.SaveX, s.SaveY, ⟨s.SaveA.Fg, s.SaveA.Bg, s.SaveA.Bold, s.SaveA.Under, s.SaveA.Turn⟩, SlD.of ho27, s.Limit, SlD.ofN ho48⟩, _, rfl, (St.keep1 (St.perm hs67 (L' := L65 ++ _) (perm_front (A := [_, _, _]) (List.Perm.refl _)))), ?_, ?_⟩
  · exact (by exact ho66)
  · rw [← keepOne_all (by have h9 := qh52; simp only [List.length_append, List.length_singleton] at h9; show (s.Back.xs.map RowR.dat).length + 1 ≤ s.Limit.toNat; rw [List.length_map]; omega), ← hrow]; simp only [ScrR.dat, List.map_append]; rfl
end Go.Proofs.YtjmegoiclgancaaGreat
namespace Go.Proofs.YtjmegoiclgancaaGreat
open Go Go.RowKit
set_option linter.unusedVariables false
set_option linter.unusedSimpArgs false
theorem c_spec_l09Roll (s : ScrR) (L_s : Hp) (n : Int) (w : World) (o_s : ownScrR s L_s) (h_s : ∀ p, p ∈ L_s → w.heap[p.1]? = some p.2) (hd_ : ((L_s).map (·.1)).Nodup) (hf : ScrFine s.dat) (hn : 0 ≤ n ∧ n ≤ 100000) (hsmB : smScr 549755813888 s.dat) :
    Calls Tryz.prog 183 #[.agg #[i64 s.W, i64 s.H, i64 s.Main.W, i64 s.Main.H, .slice s.Main.Cells.A s.Main.Cells.n s.Main.Cells.c, i64 s.Alt.W, i64 s.Alt.H, .slice s.Alt.Cells.A s.Alt.Cells.n s.Alt.Cells.c, .bool s.OnAlt, i64 s.X, i64 s.Y, .bool s.Wrap, i64 s.A.Fg, i64 s.A.Bg, .bool s.A.Bold, .bool s.A.Under, .bool s.A.Turn, i64 s.Top, i64 s.Bot, .bool s.NoWrap, .bool s.Hide, i64 s.SaveX, i64 s.SaveY, i64 s.SaveA.Fg, i64 s.SaveA.Bg, .bool s.SaveA.Bold, .bool s.SaveA.Under, .bool s.SaveA.Turn, .slice s.Tabs.A s.Tabs.n s.Tabs.c, i64 s.Limit, .slice s.Back.A s.Back.n s.Back.c], i64 n] w fun e w' => ∃ r L1, e = .returned (.agg #[i64 r.W, i64 r.H, i64 r.Main.W, i64 r.Main.H, .slice r.Main.Cells.A r.Main.Cells.n r.Main.Cells.c, i64 r.Alt.W, i64 r.Alt.H, .slice r.Alt.Cells.A r.Alt.Cells.n r.Alt.Cells.c, .bool r.OnAlt, i64 r.X, i64 r.Y, .bool r.Wrap, i64 r.A.Fg, i64 r.A.Bg, .bool r.A.Bold, .bool r.A.Under, .bool r.A.Turn, i64 r.Top, i64 r.Bot, .bool r.NoWrap, .bool r.Hide, i64 r.SaveX, i64 r.SaveY, i64 r.SaveA.Fg, i64 r.SaveA.Bg, .bool r.SaveA.Bold, .bool r.SaveA.Under, .bool r.SaveA.Turn, .slice r.Tabs.A r.Tabs.n r.Tabs.c, i64 r.Limit, .slice r.Back.A r.Back.n r.Back.c]) ∧ St w ((L_s).map (·.1)) L1 w' ∧ ownScrR r L1 ∧ r.dat = rollUpD s.dat n := by
 have hok9 := hf.ok
 obtain ⟨hb1, hb2, hb3, hb4, hb5, hb6⟩ := scrOk_bnd hok9
 obtain ⟨hm, hma⟩ := scrOk_main hok9
 simp only [ScrR.dat, GridR.dat, List.length_map] at hb1 hb2 hb3 hb4 hb5 hb6
 refine enter (vs := [.agg #[i64 s.W, i64 s.H, i64 s.Main.W, i64 s.Main.H, .slice s.Main.Cells.A s.Main.Cells.n s.Main.Cells.c, i64 s.Alt.W, i64 s.Alt.H, .slice s.Alt.Cells.A s.Alt.Cells.n s.Alt.Cells.c, .bool s.OnAlt, i64 s.X, i64 s.Y, .bool s.Wrap, i64 s.A.Fg, i64 s.A.Bg, .bool s.A.Bold, .bool s.A.Under, .bool s.A.Turn, i64 s.Top, i64 s.Bot, .bool s.NoWrap, .bool s.Hide, i64 s.SaveX, i64 s.SaveY, i64 s.SaveA.Fg, i64 s.SaveA.Bg, .bool s.SaveA.Bold, .bool s.SaveA.Under, .bool s.SaveA.Turn, .slice s.Tabs.A s.Tabs.n s.Tabs.c, i64 s.Limit, .slice s.Back.A s.Back.n s.Back.c], i64 n]) 43 Tryz.func183 rfl Tryz.ntmps183 rfl rfl ?_
 have hs1 := St.takes1 w L_s h_s hd_
 refine WC.sr ?_
 refine WL.bx hs1 rfl (fun b2 _ hs3 => ?_)
 refine WL.al hs3 Tryz.zeroValue33 rfl rfl (fun b4 _ hs5 => ?_)
 refine WL.nil ?_
 refine WC.seq (fun K6 hK6 => ?_)
 refine WC.rr tbk hs5 [] rfl trivial ?_
 refine WC.block ?_
 have hM11 := (St.grp1 (L1 := L_s) [_] (St.perm (St.perm hs5 (L' := L_s ++ _) (perm_front (A := [_, _]) (List.Perm.refl _))) (L' := [_] ++ _) (perm_front (A := L_s) (perm_front (A := [_]) (List.Perm.refl _)))))
 refine WC.loopV (α := Hp) [(1, _), (2, _), (4, _)] ⟨rfl, rfl, rfl, trivial⟩ (fun a_ => a_) _ hM11 (fun k_ (a_ : Hp) f => ∃ (i : Nat) (r : ScrR) (L9 : Hp), k_ = (min n (s.Bot + 1)).toNat - i ∧ a_ = [(b2, .cells (List.toArray [i64 r.W, i64 r.H, i64 r.Main.W, i64 r.Main.H, .slice r.Main.Cells.A r.Main.Cells.n r.Main.Cells.c, i64 r.Alt.W, i64 r.Alt.H, .slice r.Alt.Cells.A r.Alt.Cells.n r.Alt.Cells.c, .bool r.OnAlt, i64 r.X, i64 r.Y, .bool r.Wrap, i64 r.A.Fg, i64 r.A.Bg, .bool r.A.Bold, .bool r.A.Under, .bool r.A.Turn, i64 r.Top, i64 r.Bot, .bool r.NoWrap, .bool r.Hide, i64 r.SaveX, i64 r.SaveY, i64 r.SaveA.Fg, i64 r.SaveA.Bg, .bool r.SaveA.Bold, .bool r.SaveA.Under, .bool r.SaveA.Turn, .slice r.Tabs.A r.Tabs.n r.Tabs.c, i64 r.Limit, .slice r.Back.A r.Back.n r.Back.c]) 33 (0, 0))] ++ L9 ∧ ((i : Int) ≤ min n (s.Bot + 1)) ∧ (r.dat = keepRows s.dat i) ∧ (¬ (s.OnAlt = false ∧ s.Top = 0) → i = 0) ∧ ownScrR r L9 ∧ Sub [(5, .int .i64 i)] f) (((fun (i : Nat) => (min n (s.Bot + 1)).toNat - i) (0))) ?_ ?_
 ·refine ⟨0, s, L_s, rfl, rfl, ?_, ?_, ?_, o_s, ⟨rfl, trivial⟩⟩
  · omega
  · rw [keepRows_zero (by show ((s.Back.xs.map RowR.dat).length : Int) ≤ s.Limit; rw [List.length_map]; omega)]
  · exact fun _ => rfl
 ·rintro _ _ f w ⟨i, r, L9, rfl, rfl, p0, p1, p2, ho10, hG⟩ hF hs12
  refine WC.sub _ (hG.app hF) ?_
  clear hG hF
  replace hs12 := St.ungrp1 [_] hs12
  have hs13 := (St.perm (St.perm hs12 (L' := [_] ++ _) (perm_front (A := [_]) (perm_front (A := L9) (List.Perm.refl _)))) (L' := [_] ++ _) (perm_front (A := [_]) (List.Perm.refl _)))
  have hsmr : smScr 549755813888 r.dat := by rw [p1]; exact keepRows_sm hsmB hm (by decide) (by show s.Limit.toNat ≤ _; omega)
  have hrM : r.Main.dat = s.Main.dat := congrArg ScrD.Main p1
  have hrW : r.W = s.W := congrArg ScrD.W p1
  have hrL : r.Limit = s.Limit := congrArg ScrD.Limit p1
  have hrH : r.Main.H = s.Main.H := congrArg GridD.H hrM
  have hrV : r.Main.W = s.Main.W := congrArg GridD.W hrM
  have hrT : r.Top = s.Top := congrArg ScrD.Top p1
  have hrb : r.Bot = s.Bot := congrArg ScrD.Bot p1
  have hrO : r.OnAlt = s.OnAlt := congrArg ScrD.OnAlt p1
  have hrB : (r.Back.xs.length : Int) ≤ s.Limit := by have h9 := congrArg (fun d : ScrD => d.Back.length) p1; simp only [ScrR.dat, keepRows, lastN_len, List.length_map] at h9; omega
  refine WC.seq (fun K14 hK14 => ?_)
  refine WC.sr ?_
  refine WL.run tbk 4 hs13 [] rfl trivial ?_
  refine WL.pA tbk 7 Acts.nil hs13 [0, 0] rfl rfl rfl rfl (fun g_ => by (try simp only [bf, within_iff, within_not] at g_); exact ⟨by omega, rfl, rfl, trivial⟩) ?_
  refine WL.run tbk 1 hs13 [] rfl trivial ?_
  refine WL.pA tbk 3 Acts.nil hs13 [0] rfl rfl rfl rfl (fun g_ => ⟨rfl, trivial⟩) ?_
  refine WL.run tbk 1 hs13 [] rfl trivial ?_
  refine WL.pA tbk 3 Acts.nil hs13 [0] rfl rfl rfl rfl (fun g_ => ⟨rfl, trivial⟩) ?_
  refine WL.nil ?_
  refine WC.cond rfl (fun h15 => ?_) (fun h15 => ?_)
  ·have qh15 := h15
   try simp only [bf, within_iff, within_not] at qh15
   have hc : s.OnAlt = false ∧ s.Top = 0 := by have h9 := h15; rw [hrO, hrT, hrb] at h9; simp at h9; exact ⟨h9.1.2, h9.2⟩
   have hlt : (i : Int) < min n (s.Bot + 1) := by have h9 := h15; rw [hrO, hrT, hrb] at h9; simp at h9; omega
   refine WC.skip ?_
   refine hK14 _ _ ?_
   refine WC.seq (fun K16 hK16 => ?_)
   refine WC.block ?_
   refine WC.region ?_
   refine WL.run tbk 2 hs13 [0] rfl ⟨rfl, trivial⟩ ?_
   refine WL.call rfl rfl rfl (Run.call Tryz.call231 rfl rfl rfl) (c_spec_l09Keep r _ _ _ ho10 (fun p_ hp_ => (hs13.own p_ (List.mem_append_right [_, _] (List.mem_append_left _ hp_))).1) (St.nodupL (St.perm hs13 (L' := L9 ++ _) (perm_front (A := [_, _]) (List.Perm.refl _)))) ?_ ?_ ?_ ?_ ?_ ?_) ?_
   · first | (first | assumption | rfl | omega) | (first | assumption | omega | (rw [hrM]; assumption))
   · first | (first | assumption | rfl | omega) | (first | assumption | omega | (rw [hrM]; assumption))
   · first | (first | assumption | rfl | omega) | (first | assumption | omega | (rw [hrM]; assumption))
   · first | (first | assumption | rfl | omega) | (first | assumption | omega | (rw [hrM]; assumption))
   · first | (first | assumption | rfl | omega) | (first | assumption | omega | (rw [hrM]; assumption))
   · first | (first | assumption | rfl | omega) | (first | assumption | omega | (rw [hrM]; assumption))
   rintro _ whs17 ⟨r18, L1_19, rfl, hs17, ho20, hd21⟩
   replace hs17 := St.lend (St.perm hs13 (L' := L9 ++ _) (perm_front (A := [_, _]) (List.Perm.refl _))) hs17
   refine ⟨_, rfl, ?_⟩
   replace hs17 := St.back [_, _] hs17
   refine WL.st tbk hs17 0 rfl rfl (fun _ hs22 => ?_)
   refine WL.nil ?_
   refine hK16 _ _ ?_
   refine WC.region ?_
   refine WL.run tbk 3 hs22 [] rfl ⟨by omega, trivial⟩ ?_
   refine WL.nil ?_
   refine tkN ?_
   have hF23 := (St.grp1 (L1 := L1_19) [_] (St.perm (St.perm (St.perm hs22 (L' := [_] ++ _) (perm_front (A := [_]) (List.Perm.refl _))) (L' := L1_19 ++ _) (perm_front (A := [_, _]) (List.Perm.refl _))) (L' := [_] ++ _) (perm_front (A := L1_19) (perm_front (A := [_]) (List.Perm.refl _)))))
   refine ⟨⟨rfl, rfl, rfl, trivial⟩, _, hF23, _, ?_, i + 1, r18, L1_19, rfl, rfl, ?_, ?_, ?_, ho20, ⟨rfl, trivial⟩⟩
   · omega
   · omega
   · rw [hd21, p1]; exact keepOne_succ
   · intro h9; exact absurd hc h9
  ·have qh15 := h15
   try simp only [bf, within_iff, within_not] at qh15
   have h1 : r.dat = keepD s.dat n := by
     unfold keepD
     by_cases hc : s.OnAlt = false ∧ s.Top = 0
     · rw [if_pos (show s.dat.OnAlt = false ∧ s.dat.Top = 0 from hc), p1]
       have h9 := h15
       rw [hrO, hrT, hrb, hc.1, hc.2] at h9
       simp at h9
       have e9 : i = (min n (s.dat.Bot + 1)).toNat := by show i = (min n (s.Bot + 1)).toNat; omega
       rw [e9]
     · rw [if_neg (show ¬ (s.dat.OnAlt = false ∧ s.dat.Top = 0) from hc), p1, p2 hc]
       exact keepRows_zero (by show ((s.Back.xs.map RowR.dat).length : Int) ≤ s.Limit; rw [List.length_map]; omega)
   have hfr : ScrFine r.dat := by rw [h1]; exact hf.keep
   have hgs : gridOk (shownR r).dat = true := by rw [shownR_dat]; exact hfr.shown.1
   have hts : 0 ≤ r.Top ∧ r.Top ≤ r.Bot ∧ r.Bot < (shownR r).H := by have h9 : (shownR r).H = (shownD r.dat).H := congrArg GridD.H shownR_dat; rw [h9, hfr.shown.2.2]; exact ⟨hfr.reg.1.1, hfr.reg.1.2, hfr.reg.2.1⟩
   refine WC.exit ?_
   refine hK6 _ _ ?_
   refine WC.seq (fun K24 hK24 => ?_)
   refine WC.regionG 10 (fun w' => St _ _ _ w') (fun w' => St _ _ _ w') (fun w' => St _ _ _ w') mixed (St.drew (St.drop (St.perm (St.drop hs13 (List.Sublist.cons_cons _ (List.Sublist.cons _ (List.Sublist.refl _)))) (L' := L9 ++ _) (perm_front (A := [_]) (List.Perm.refl _))) (List.sublist_append_right L9 _))) (St.drew (St.drop (St.perm hs13 (L' := L9 ++ _) (perm_front (A := [_, _]) (List.Perm.refl _))) (List.sublist_append_right L9 _))) (St.drew hs13) (fun whs25 hs25 => ?_)
   replace hs25 : St _ _ _ _ := hs25
   refine WG.take 0 rfl (by kernel_rfl) (by kernel_rfl) rfl rfl rfl (St.drop (St.perm hs25 (L' := L9 ++ _) (perm_front (A := [_, _]) (List.Perm.refl _))) (List.sublist_append_right L9 _)) (fun w_ hs_ => (Run.loadLA (hs_ : St _ _ _ _) 0 Tryz.isAgg33 Tryz.sizeOf33 rfl rfl rfl rfl rfl)) ?_
   refine WG.take 1 rfl (by kernel_rfl) (by kernel_rfl) rfl rfl rfl (St.drop (St.perm hs25 (L' := L9 ++ _) (perm_front (A := [_, _]) (List.Perm.refl _))) (List.sublist_append_right L9 _)) (fun w_ hs_ => (Run.loadLA (hs_ : St _ _ _ _) 0 Tryz.isAgg33 Tryz.sizeOf33 rfl rfl rfl rfl rfl)) ?_
   refine WG.take 3 rfl (by kernel_rfl) (by kernel_rfl) rfl rfl rfl (St.drop (St.perm hs25 (L' := L9 ++ _) (perm_front (A := [_, _]) (List.Perm.refl _))) (List.sublist_append_right L9 _)) (fun w_ hs_ => (Run.field Tryz.runUnderlying33 rfl rfl rfl Tryz.sizeOf3 rfl)) ?_
   refine WG.take 4 rfl (by kernel_rfl) (by kernel_rfl) rfl rfl rfl (St.drop (St.perm hs25 (L' := L9 ++ _) (perm_front (A := [_, _]) (List.Perm.refl _))) (List.sublist_append_right L9 _)) (fun w_ hs_ => (Run.loadL (hs_ : St _ _ _ _) 0 Tryz.isAgg3 rfl rfl rfl rfl)) ?_
   refine WG.take 5 rfl (by kernel_rfl) (by kernel_rfl) rfl rfl rfl (St.drop (St.perm hs25 (L' := L9 ++ _) (perm_front (A := [_, _]) (List.Perm.refl _))) (List.sublist_append_right L9 _)) (fun w_ hs_ => (Run.field Tryz.runUnderlying33 rfl rfl rfl Tryz.sizeOf3 rfl)) ?_
   refine WG.take 6 rfl (by kernel_rfl) (by kernel_rfl) rfl rfl rfl (St.drop (St.perm hs25 (L' := L9 ++ _) (perm_front (A := [_, _]) (List.Perm.refl _))) (List.sublist_append_right L9 _)) (fun w_ hs_ => (Run.loadL (hs_ : St _ _ _ _) 0 Tryz.isAgg3 rfl rfl rfl rfl)) ?_
   refine WG.take 7 rfl (by kernel_rfl) (by kernel_rfl) rfl rfl rfl (St.drop (St.perm hs25 (L' := L9 ++ _) (perm_front (A := [_, _]) (List.Perm.refl _))) (List.sublist_append_right L9 _)) (fun w_ hs_ => (Run.move rfl rfl)) ?_
   refine WG.all [2] (by kernel_rfl) rfl (WGs.cons (i := 2) rfl rfl ?_ WGs.nil)
   refine WL.call rfl rfl rfl (Run.call Tryz.call145 rfl rfl rfl) (c_spec_l09Shown r _ (ownScrR.ok (B := 549755813888) ho10 (fun p_ hp_ => (hs25.own p_ (List.mem_append_right [_, _] (List.mem_append_left _ hp_))).1) hsmr)) ?_
   rintro _ whs27 ⟨rfl, hs27⟩
   replace hs27 := hs25.call0 hs27
   refine ⟨_, rfl, ?_⟩
   refine WL.nil ⟨(St.drop (St.perm hs27 (L' := L9 ++ _) (perm_front (A := [_, _]) (List.Perm.refl _))) (List.sublist_append_right L9 _)), ?_⟩
   refine WG.all [8] (by kernel_rfl) rfl (WGs.cons (i := 8) rfl rfl ?_ WGs.nil)
   refine WL.call rfl rfl rfl (Run.call Tryz.call144 rfl rfl rfl) (c_spec_GridRoll (shownR r) _ _ _ _ (okScrR.shown (ownScrR.ok (B := 549755813888) ho10 (fun p_ hp_ => (hs27.own p_ (List.mem_append_right [_, _] (List.mem_append_left _ hp_))).1) hsmr)) ?_ ?_ ?_) ?_
   · first | (first | assumption | rfl | omega) | (first | assumption | omega | (rw [hrM]; assumption))
   · first | (first | assumption | rfl | omega) | (first | assumption | omega | (rw [hrM]; assumption))
   · first | (first | assumption | rfl | omega) | (first | assumption | omega | (rw [hrM]; assumption))
   rintro _ whs28 ⟨r29, L1_30, rfl, hs28, ho31, hd32⟩
   replace hs28 := hs27.callF hs28
   refine ⟨_, rfl, ?_⟩
   replace hs28 := St.back [_, _] hs28
   have hgr := hd32
   refine WL.nil ⟨(St.drop (St.perm (St.drop (St.perm hs28 (L' := L1_30 ++ _) (perm_front (A := [_, _]) (List.Perm.refl _))) (List.sublist_append_right L1_30 _)) (L' := L9 ++ _) (perm_front (A := [_, _]) (List.Perm.refl _))) (List.sublist_append_right L9 _)), ?_⟩
   refine WG.all [9] (by kernel_rfl) rfl (WGs.cons (i := 9) rfl rfl ?_ WGs.nil)
   refine WL.call rfl rfl rfl (Run.call Tryz.call143 rfl rfl rfl) (c_spec_l09Put r _ r29 _ _ ho10 (fun p_ hp_ => (hs28.own p_ (List.mem_append_right [_, _] (List.mem_append_right _ (List.mem_append_left _ hp_)))).1) ho31 (fun p_ hp_ => (hs28.own p_ (List.mem_append_right [_, _] (List.mem_append_left _ hp_))).1) (St.nodupL (St.grp2 (L1 := L9) (L2 := L1_30) [] (St.perm (St.perm hs28 (L' := L1_30 ++ _) (perm_front (A := [_, _]) (List.Perm.refl _))) (L' := L9 ++ _) (perm_front (A := L1_30) (perm_front (A := [_, _]) (List.Perm.refl _))))))) ?_
   rintro _ whs33 ⟨r34, L1_35, rfl, hs33, ho36, hd37⟩
   replace hs33 := St.lend (St.grp2 (L1 := L9) (L2 := L1_30) [] (St.perm (St.perm hs28 (L' := L1_30 ++ _) (perm_front (A := [_, _]) (List.Perm.refl _))) (L' := L9 ++ _) (perm_front (A := L1_30) (perm_front (A := [_, _]) (List.Perm.refl _))))) hs33
   refine ⟨_, rfl, ?_⟩
   replace hs33 := St.back [_, _] hs33
   refine WL.nil ⟨(St.drop (St.perm hs33 (L' := L1_35 ++ _) (perm_front (A := [_, _]) (List.Perm.refl _))) (List.sublist_append_right L1_35 _)), ?_⟩
   refine WG.all [10] (by kernel_rfl) rfl (WGs.consK rfl ?_ WGs.nil)
   refine WL.st tbk hs33 1 rfl rfl (fun _ hs38 => ?_)
   refine WL.nil ⟨(St.drop (St.perm (St.drop hs38 (List.Sublist.cons_cons _ (List.Sublist.cons _ (List.Sublist.refl _)))) (L' := L1_35 ++ _) (perm_front (A := [_]) (List.Perm.refl _))) (List.sublist_append_right L1_35 _)), ?_⟩
   refine WH.done (by kernel_rfl) ?_
   refine hK24 _ _ ?_
   refine WC.ret ?_
   refine retV1 rfl (resV.cellA tbk hs38 1 rfl rfl rfl rfl) ?_
   refine ⟨r34, _, rfl, (St.keep1 (St.perm hs38 (L' := L1_35 ++ _) (perm_front (A := [_, _]) (List.Perm.refl _)))), ?_, ?_⟩
   · exact ho36
   · refine hd37.trans ?_; rw [hgr, shownR_dat]; show putD r.dat (gRoll (shownD r.dat) r.Top r.Bot n) = _; rw [hrT, hrb, h1]; rfl
theorem c_spec_l09Down (s : ScrR) (L_s : Hp) (w : World) (o_s : ownScrR s L_s) (h_s : ∀ p, p ∈ L_s → w.heap[p.1]? = some p.2) (hd_ : ((L_s).map (·.1)).Nodup) (hf : ScrFine s.dat) (hsmB : smScr 549755813888 s.dat) :
    Calls Tryz.prog 142 #[.agg #[i64 s.W, i64 s.H, i64 s.Main.W, i64 s.Main.H, .slice s.Main.Cells.A s.Main.Cells.n s.Main.Cells.c, i64 s.Alt.W, i64 s.Alt.H, .slice s.Alt.Cells.A s.Alt.Cells.n s.Alt.Cells.c, .bool s.OnAlt, i64 s.X, i64 s.Y, .bool s.Wrap, i64 s.A.Fg, i64 s.A.Bg, .bool s.A.Bold, .bool s.A.Under, .bool s.A.Turn, i64 s.Top, i64 s.Bot, .bool s.NoWrap, .bool s.Hide, i64 s.SaveX, i64 s.SaveY, i64 s.SaveA.Fg, i64 s.SaveA.Bg, .bool s.SaveA.Bold, .bool s.SaveA.Under, .bool s.SaveA.Turn, .slice s.Tabs.A s.Tabs.n s.Tabs.c, i64 s.Limit, .slice s.Back.A s.Back.n s.Back.c]] w fun e w' => ∃ r L1, e = .returned (.agg #[i64 r.W, i64 r.H, i64 r.Main.W, i64 r.Main.H, .slice r.Main.Cells.A r.Main.Cells.n r.Main.Cells.c, i64 r.Alt.W, i64 r.Alt.H, .slice r.Alt.Cells.A r.Alt.Cells.n r.Alt.Cells.c, .bool r.OnAlt, i64 r.X, i64 r.Y, .bool r.Wrap, i64 r.A.Fg, i64 r.A.Bg, .bool r.A.Bold, .bool r.A.Under, .bool r.A.Turn, i64 r.Top, i64 r.Bot, .bool r.NoWrap, .bool r.Hide, i64 r.SaveX, i64 r.SaveY, i64 r.SaveA.Fg, i64 r.SaveA.Bg, .bool r.SaveA.Bold, .bool r.SaveA.Under, .bool r.SaveA.Turn, .slice r.Tabs.A r.Tabs.n r.Tabs.c, i64 r.Limit, .slice r.Back.A r.Back.n r.Back.c]) ∧ St w ((L_s).map (·.1)) L1 w' ∧ ownScrR r L1 ∧ r.dat = downD s.dat := by
 have hok9 := hf.ok
 obtain ⟨hb1, hb2, hb3, hb4, hb5, hb6⟩ := scrOk_bnd hok9
 obtain ⟨hm, hma⟩ := scrOk_main hok9
 simp only [ScrR.dat, GridR.dat, List.length_map] at hb1 hb2 hb3 hb4 hb5 hb6
 have hfw : ScrFine (wrapD s.dat false) := hf.wrap0
 refine enter (vs := [.agg #[i64 s.W, i64 s.H, i64 s.Main.W, i64 s.Main.H, .slice s.Main.Cells.A s.Main.Cells.n s.Main.Cells.c, i64 s.Alt.W, i64 s.Alt.H, .slice s.Alt.Cells.A s.Alt.Cells.n s.Alt.Cells.c, .bool s.OnAlt, i64 s.X, i64 s.Y, .bool s.Wrap, i64 s.A.Fg, i64 s.A.Bg, .bool s.A.Bold, .bool s.A.Under, .bool s.A.Turn, i64 s.Top, i64 s.Bot, .bool s.NoWrap, .bool s.Hide, i64 s.SaveX, i64 s.SaveY, i64 s.SaveA.Fg, i64 s.SaveA.Bg, .bool s.SaveA.Bold, .bool s.SaveA.Under, .bool s.SaveA.Turn, .slice s.Tabs.A s.Tabs.n s.Tabs.c, i64 s.Limit, .slice s.Back.A s.Back.n s.Back.c]]) 22 Tryz.func142 rfl Tryz.ntmps142 rfl rfl ?_
 have hs1 := St.takes1 w L_s h_s hd_
 refine WC.sr ?_
 refine WL.bx hs1 rfl (fun b2 _ hs3 => ?_)
 refine WL.al hs3 Tryz.zeroValue33 rfl rfl (fun b4 _ hs5 => ?_)
 refine WL.nil ?_
 refine WC.sr ?_
 refine WL.run tbk 1 hs5 [] rfl trivial ?_
 refine WL.st tbk hs5 1 rfl rfl (fun _ hs6 => ?_)
 refine WL.nil ?_
 refine WC.seq (fun K7 hK7 => ?_)
 refine WC.rr tbk hs6 [1, 1] rfl ⟨rfl, rfl, trivial⟩ ?_
 refine WC.cond rfl (fun h8 => ?_) (fun h8 => ?_)
 ·have qh8 := h8
  try simp only [bf, within_iff, within_not] at qh8
  have e1 : s.dat.Y = s.dat.Bot := by show s.Y = s.Bot; have h9 := h8; simpa using h9
  refine WC.sr ?_
  refine WL.run tbk 1 hs6 [1] rfl ⟨rfl, trivial⟩ ?_
  obtain ⟨L9, L10, L11, L12, hs17, ho13, ho14, ho15, ho16⟩ := ownScrR.open_ (St.perm hs6 (L' := L_s ++ _) (perm_front (A := [_, _]) (List.Perm.refl _))) o_s
  have hs18 := (St.perm (St.perm hs17 (L' := [_] ++ _) (perm_front (A := L9) (perm_front (A := L10) (perm_front (A := L11) (perm_front (A := L12) (perm_front (A := [_]) (List.Perm.refl _))))))) (L' := [_] ++ _) (perm_front (A := [_]) (perm_front (A := L9) (perm_front (A := L10) (perm_front (A := L11) (perm_front (A := L12) (List.Perm.refl _)))))))
  obtain ⟨L20, hs19, ho21⟩ := ownScrR.fold ⟨0, 0, ⟨0, 0, ⟨_, _, _, _⟩⟩, ⟨0, 0, ⟨_, _, _, _⟩⟩, false, 0, 0, false, ⟨0, 0, false, false, false⟩, 0, 0, false, false, 0, 0, ⟨0, 0, false, false, false⟩, ⟨_, _, _, _⟩, 0, ⟨_, _, _, _⟩⟩ (St.perm (St.perm (St.perm (St.perm hs18 (L' := L12 ++ _) (perm_front (A := [_, _]) (perm_front (A := L9) (perm_front (A := L10) (perm_front (A := L11) (List.Perm.refl _)))))) (L' := L11 ++ _) (perm_front (A := L12) (perm_front (A := [_, _]) (perm_front (A := L9) (perm_front (A := L10) (List.Perm.refl _)))))) (L' := L10 ++ _) (perm_front (A := L11) (perm_front (A := L12) (perm_front (A := [_, _]) (perm_front (A := L9) (List.Perm.refl _)))))) (L' := L9 ++ _) (perm_front (A := L10) (perm_front (A := L11) (perm_front (A := L12) (perm_front (A := [_, _]) (List.Perm.refl _)))))) ho13 ho14 ho15 ho16
  have hs22 := (St.perm (St.perm hs19 (L' := [_] ++ _) (perm_front (A := L20) (perm_front (A := [_]) (List.Perm.refl _)))) (L' := [_] ++ _) (perm_front (A := [_]) (perm_front (A := L20) (List.Perm.refl _))))
  refine WL.call rfl rfl rfl (Run.call Tryz.call183 rfl rfl rfl) (c_spec_l09Roll ⟨s.W, s.H, ⟨s.Main.W, s.Main.H, SlD.of ho13⟩, ⟨s.Alt.W, s.Alt.H, SlD.of ho14⟩, s.OnAlt, s.X, s.Y, false, ⟨s.A.Fg, s.A.Bg, s.A.Bold, s.A.Under, s.A.Turn⟩, s.Top, s.Bot, s.NoWrap, s.Hide, s.SaveX, s.SaveY, ⟨s.SaveA.Fg, s.SaveA.Bg, s.SaveA.Bold, s.SaveA.Under, s.SaveA.Turn⟩, SlD.of ho15, s.Limit, SlD.ofN ho16⟩ _ _ _ (by exact ho21) (fun p_ hp_ => (hs22.own p_ (List.mem_append_right [_, _] (List.mem_append_left _ hp_))).1) (St.nodupL (St.perm hs22 (L' := L20 ++ _) (perm_front (A := [_, _]) (List.Perm.refl _)))) ?_ ?_ ?_) ?_
  · first | (first | assumption | rfl | omega) | (first | assumption | omega | exact hfw)
  · first | (first | assumption | rfl | omega) | (first | assumption | omega | exact hfw)
  · first | (first | assumption | rfl | omega) | (first | assumption | omega | exact hfw)
  rintro _ whs23 ⟨r24, L1_25, rfl, hs23, ho26, hd27⟩
  replace hs23 := St.lend (St.perm hs22 (L' := L20 ++ _) (perm_front (A := [_, _]) (List.Perm.refl _))) hs23
  refine ⟨_, rfl, ?_⟩
  replace hs23 := St.back [_, _] hs23
  have hd3 := hd27
  refine WL.st tbk hs23 0 rfl rfl (fun _ hs28 => ?_)
  refine WL.nil ?_
  refine WC.ret ?_
  refine tkR ?_
  clear hK7
  refine retV1 rfl (resV.cellA tbk hs28 0 rfl rfl rfl rfl) ?_
  refine ⟨r24, _, rfl, (St.keep1 (St.perm hs28 (L' := L1_25 ++ _) (perm_front (A := [_, _]) (List.Perm.refl _)))), ?_, ?_⟩
  · exact ho26
  · unfold downD; first | (rw [if_pos e1, ← rollUp_wrap]; exact hd27) | (rw [if_neg e1, if_pos e2]; rfl) | (rw [if_neg e1, if_neg e2]; rfl)
 ·have qh8 := h8
  try simp only [bf, within_iff, within_not] at qh8
  have e1 : ¬ s.dat.Y = s.dat.Bot := by show ¬ s.Y = s.Bot; have h9 := h8; simpa using h9
  refine WC.skip ?_
  refine hK7 _ _ ?_
  refine WC.seq (fun K29 hK29 => ?_)
  refine WC.rr tbk hs6 [1, 1] rfl ⟨by omega, rfl, rfl, trivial⟩ ?_
  refine WC.cond rfl (fun h30 => ?_) (fun h30 => ?_)
  ·have qh30 := h30
   try simp only [bf, within_iff, within_not] at qh30
   have e2 : s.dat.Y < s.dat.H - 1 := by show s.Y < s.H - 1; have h9 := h30; simpa using h9
   refine WC.region ?_
   refine WL.run tbk 4 hs6 [1] rfl ⟨by omega, rfl, trivial⟩ ?_
   refine WL.st tbk hs6 1 rfl rfl (fun _ hs31 => ?_)
   refine WL.nil ?_
   refine hK29 _ _ ?_
   refine WC.sr ?_
   refine WL.run tbk 1 hs31 [1] rfl ⟨rfl, trivial⟩ ?_
   refine WL.st tbk hs31 0 rfl rfl (fun _ hs32 => ?_)
   refine WL.nil ?_
   refine WC.ret ?_
   refine retV1 rfl (resV.cellA tbk hs32 0 rfl rfl rfl rfl) ?_
   obtain ⟨L33, L34, L35, L36, hs41, ho37, ho38, ho39, ho40⟩ := ownScrR.open_ (St.perm hs32 (L' := L_s ++ _) (perm_front (A := [_, _]) (List.Perm.refl _))) o_s
   have hs42 := (St.perm (St.perm hs41 (L' := [_] ++ _) (perm_front (A := L33) (perm_front (A := L34) (perm_front (A := L35) (perm_front (A := L36) (perm_front (A := [_]) (List.Perm.refl _))))))) (L' := [_] ++ _) (perm_front (A := [_]) (perm_front (A := L33) (perm_front (A := L34) (perm_front (A := L35) (perm_front (A := L36) (List.Perm.refl _)))))))
   obtain ⟨L44, hs43, ho45⟩ := ownScrR.fold ⟨0, 0, ⟨0, 0, ⟨_, _, _, _⟩⟩, ⟨0, 0, ⟨_, _, _, _⟩⟩, false, 0, 0, false, ⟨0, 0, false, false, false⟩, 0, 0, false, false, 0, 0, ⟨0, 0, false, false, false⟩, ⟨_, _, _, _⟩, 0, ⟨_, _, _, _⟩⟩ (St.perm (St.perm (St.perm (St.perm hs42 (L' := L36 ++ _) (perm_front (A := [_, _]) (perm_front (A := L33) (perm_front (A := L34) (perm_front (A := L35) (List.Perm.refl _)))))) (L' := L35 ++ _) (perm_front (A := L36) (perm_front (A := [_, _]) (perm_front (A := L33) (perm_front (A := L34) (List.Perm.refl _)))))) (L' := L34 ++ _) (perm_front (A := L35) (perm_front (A := L36) (perm_front (A := [_, _]) (perm_front (A := L33) (List.Perm.refl _)))))) (L' := L33 ++ _) (perm_front (A := L34) (perm_front (A := L35) (perm_front (A := L36) (perm_front (A := [_, _]) (List.Perm.refl _)))))) ho37 ho38 ho39 ho40
   have hs46 := (St.perm (St.perm hs43 (L' := [_] ++ _) (perm_front (A := L44) (perm_front (A := [_]) (List.Perm.refl _)))) (L' := [_] ++ _) (perm_front (A := [_]) (perm_front (A := L44) (List.Perm.refl _))))
   refine ⟨⟨s.W, s.H, ⟨s.Main.W, s.Main.H, SlD.of ho37⟩, ⟨s.Alt.W, s.Alt.H, SlD.of ho38⟩, s.OnAlt, s.X, (s.Y + (1)), false, ⟨s.A.Fg, s.A.Bg, s.A.Bold, s.A.Under, s.A.Turn⟩, s.Top, s.Bot, s.NoWrap, s.Hide, s.SaveX, s.SaveY, ⟨s.SaveA.Fg, s.SaveA.Bg, s.SaveA.Bold, s.SaveA.Under, s.SaveA.Turn⟩, SlD.of ho39, s.Limit, SlD.ofN ho40⟩, _, rfl, (St.keep1 (St.perm hs46 (L' := L44 ++ _) (perm_front (A := [_, _]) (List.Perm.refl _)))), ?_, ?_⟩
   · exact (by exact ho45)
   · unfold downD; first | (rw [if_pos e1, ← rollUp_wrap]; exact rfl) | (rw [if_neg e1, if_pos e2]; rfl) | (rw [if_neg e1, if_neg e2]; rfl)
  ·have qh30 := h30
   try simp only [bf, within_iff, within_not] at qh30
   have e2 : ¬ s.dat.Y < s.dat.H - 1 := by show ¬ s.Y < s.H - 1; have h9 := h30; simpa using h9
   refine WC.skip ?_
   refine hK29 _ _ ?_
   refine WC.sr ?_
   refine WL.run tbk 1 hs6 [1] rfl ⟨rfl, trivial⟩ ?_
   refine WL.st tbk hs6 0 rfl rfl (fun _ hs47 => ?_)
   refine WL.nil ?_
   refine WC.ret ?_
   refine retV1 rfl (resV.cellA tbk hs47 0 rfl rfl rfl rfl) ?_
   obtain ⟨L48, L49, L50, L51, hs56, ho52, ho53, ho54, ho55⟩ := ownScrR.open_ (St.perm hs47 (L' := L_s ++ _) (perm_front (A := [_, _]) (List.Perm.refl _))) o_s
   have hs57 := (St.perm (St.perm hs56 (L' := [_] ++ _) (perm_front (A := L48) (perm_front (A := L49) (perm_front (A := L50) (perm_front (A := L51) (perm_front (A := [_]) (List.Perm.refl _))))))) (L' := [_] ++ _) (perm_front (A := [_]) (perm_front (A := L48) (perm_front (A := L49) (perm_front (A := L50) (perm_front (A := L51) (List.Perm.refl _)))))))
   obtain ⟨L59, hs58, ho60⟩ := ownScrR.fold ⟨0, 0, ⟨0, 0, ⟨_, _, _, _⟩⟩, ⟨0, 0, ⟨_, _, _, _⟩⟩, false, 0, 0, false, ⟨0, 0, false, false, false⟩, 0, 0, false, false, 0, 0, ⟨0, 0, false, false, false⟩, ⟨_, _, _, _⟩, 0, ⟨_, _, _, _⟩⟩ (St.perm (St.perm (St.perm (St.perm hs57 (L' := L51 ++ _) (perm_front (A := [_, _]) (perm_front (A := L48) (perm_front (A := L49) (perm_front (A := L50) (List.Perm.refl _)))))) (L' := L50 ++ _) (perm_front (A := L51) (perm_front (A := [_, _]) (perm_front (A := L48) (perm_front (A := L49) (List.Perm.refl _)))))) (L' := L49 ++ _) (perm_front (A := L50) (perm_front (A := L51) (perm_front (A := [_, _]) (perm_front (A := L48) (List.Perm.refl _)))))) (L' := L48 ++ _) (perm_front (A := L49) (perm_front (A := L50) (perm_front (A := L51) (perm_front (A := [_, _]) (List.Perm.refl _)))))) ho52 ho53 ho54 ho55
   have hs61 := (St.perm (St.perm hs58 (L' := [_] ++ _) (perm_front (A := L59) (perm_front (A := [_]) (List.Perm.refl _)))) (L' := [_] ++ _) (perm_front (A := [_]) (perm_front (A := L59) (List.Perm.refl _))))
   refine ⟨⟨s.W, s.H, ⟨s.Main.W, s.Main.H, SlD.of ho52⟩, ⟨s.Alt.W, s.Alt.H, SlD.of ho53⟩, s.OnAlt, s.X, s.Y, false, ⟨s.A.Fg, s.A.Bg, s.A.Bold, s.A.Under, s.A.Turn⟩, s.Top, s.Bot, s.NoWrap, s.Hide, s.SaveX, s.SaveY, ⟨s.SaveA.Fg, s.SaveA.Bg, s.SaveA.Bold, s.SaveA.Under, s.SaveA.Turn⟩, SlD.of ho54, s.Limit, SlD.ofN ho55⟩, _, rfl, (St.keep1 (St.perm hs61 (L' := L59 ++ _) (perm_front (A := [_, _]) (List.Perm.refl _)))), ?_, ?_⟩
   · exact (by exact ho60)
   · unfold downD; first | (rw [if_pos e1, ← rollUp_wrap]; exact rfl) | (rw [if_neg e1, if_pos e2]; rfl) | (rw [if_neg e1, if_neg e2]; rfl)
theorem c_spec_ScrDown (s : ScrR) (w : World) (f_s : okScrR 549755813888 w s) (hsm : smScr 1048576 s.dat) :
    Calls Tryz.prog 65 #[.agg #[i64 s.W, i64 s.H, i64 s.Main.W, i64 s.Main.H, .slice s.Main.Cells.A s.Main.Cells.n s.Main.Cells.c, i64 s.Alt.W, i64 s.Alt.H, .slice s.Alt.Cells.A s.Alt.Cells.n s.Alt.Cells.c, .bool s.OnAlt, i64 s.X, i64 s.Y, .bool s.Wrap, i64 s.A.Fg, i64 s.A.Bg, .bool s.A.Bold, .bool s.A.Under, .bool s.A.Turn, i64 s.Top, i64 s.Bot, .bool s.NoWrap, .bool s.Hide, i64 s.SaveX, i64 s.SaveY, i64 s.SaveA.Fg, i64 s.SaveA.Bg, .bool s.SaveA.Bold, .bool s.SaveA.Under, .bool s.SaveA.Turn, .slice s.Tabs.A s.Tabs.n s.Tabs.c, i64 s.Limit, .slice s.Back.A s.Back.n s.Back.c]] w fun e w' => ∃ r L1, e = .returned (.agg #[i64 r.W, i64 r.H, i64 r.Main.W, i64 r.Main.H, .slice r.Main.Cells.A r.Main.Cells.n r.Main.Cells.c, i64 r.Alt.W, i64 r.Alt.H, .slice r.Alt.Cells.A r.Alt.Cells.n r.Alt.Cells.c, .bool r.OnAlt, i64 r.X, i64 r.Y, .bool r.Wrap, i64 r.A.Fg, i64 r.A.Bg, .bool r.A.Bold, .bool r.A.Under, .bool r.A.Turn, i64 r.Top, i64 r.Bot, .bool r.NoWrap, .bool r.Hide, i64 r.SaveX, i64 r.SaveY, i64 r.SaveA.Fg, i64 r.SaveA.Bg, .bool r.SaveA.Bold, .bool r.SaveA.Under, .bool r.SaveA.Turn, .slice r.Tabs.A r.Tabs.n r.Tabs.c, i64 r.Limit, .slice r.Back.A r.Back.n r.Back.c]) ∧ St w [] L1 w' ∧ ownScrR r L1 ∧ r.dat = scrDownRes s.dat := by
 have nb_s_Main_Cells := f_s.Main.Cells_n
 have nl_s_Main_Cells := f_s.Main.Cells.len
 have nb_s_Alt_Cells := f_s.Alt.Cells_n
 have nl_s_Alt_Cells := f_s.Alt.Cells.len
 have nb_s_Tabs := f_s.Tabs_n
 have nl_s_Tabs := f_s.Tabs.len
 have nb_s_Back := f_s.Back_n
 have nl_s_Back := f_s.Back.sl.len
 have hsmB : smScr 549755813888 s.dat := by first | assumption | exact smScr_mono hsm (by decide)
 refine enter (vs := [.agg #[i64 s.W, i64 s.H, i64 s.Main.W, i64 s.Main.H, .slice s.Main.Cells.A s.Main.Cells.n s.Main.Cells.c, i64 s.Alt.W, i64 s.Alt.H, .slice s.Alt.Cells.A s.Alt.Cells.n s.Alt.Cells.c, .bool s.OnAlt, i64 s.X, i64 s.Y, .bool s.Wrap, i64 s.A.Fg, i64 s.A.Bg, .bool s.A.Bold, .bool s.A.Under, .bool s.A.Turn, i64 s.Top, i64 s.Bot, .bool s.NoWrap, .bool s.Hide, i64 s.SaveX, i64 s.SaveY, i64 s.SaveA.Fg, i64 s.SaveA.Bg, .bool s.SaveA.Bold, .bool s.SaveA.Under, .bool s.SaveA.Turn, .slice s.Tabs.A s.Tabs.n s.Tabs.c, i64 s.Limit, .slice s.Back.A s.Back.n s.Back.c]]) 10 Tryz.func65 rfl Tryz.ntmps65 rfl rfl ?_
 have hs1 := St.init w
 refine WC.sr ?_
 refine WL.bx hs1 rfl (fun b2 _ hs3 => ?_)
 refine WL.al hs3 Tryz.zeroValue33 rfl rfl (fun b4 _ hs5 => ?_)
 refine WL.nil ?_
 refine WC.seq (fun K6 hK6 => ?_)
 refine WC.sr ?_
 refine WL.run tbk 1 hs5 [1] rfl ⟨rfl, trivial⟩ ?_
 refine WL.call rfl rfl rfl (Run.call Tryz.call63 rfl rfl rfl) (c_spec_ScrOk s _ (okScrR.st0 f_s hs5)) ?_
 rintro _ whs7 ⟨rfl, hs7⟩
 replace hs7 := hs5.call0 hs7
 refine ⟨_, rfl, ?_⟩
 refine WL.run tbk 1 hs7 [] rfl trivial ?_
 refine WL.nil ?_
 refine WC.cond rfl (fun h8 => ?_) (fun h8 => ?_)
 ·have qh8 := h8
  try simp only [bf, within_iff, within_not] at qh8
  have hk : scrOk s.dat = false := by have h9 := h8; simpa using h9
  refine WC.sr ?_
  refine WL.val rfl rfl rfl (Run.build rfl rfl rfl rfl (built_33)) ?_
  refine WL.st tbk hs7 0 rfl rfl (fun _ hs9 => ?_)
  refine WL.nil ?_
  refine WC.ret ?_
  refine tkR ?_
  clear hK6
  refine retV1 rfl (resV.cellA tbk hs9 0 rfl rfl rfl rfl) ?_
  obtain ⟨L15, hs14, ho16⟩ := ownScrR.fold ⟨0, 0, ⟨0, 0, ⟨_, _, _, _⟩⟩, ⟨0, 0, ⟨_, _, _, _⟩⟩, false, 0, 0, false, ⟨0, 0, false, false, false⟩, 0, 0, false, false, 0, 0, ⟨0, 0, false, false, false⟩, ⟨_, _, _, _⟩, 0, ⟨_, _, _, _⟩⟩ (St.perm (St.perm (St.perm (St.perm hs9 (L' := ([] : Hp) ++ _) (perm_front (A := [_, _]) (List.Perm.refl _))) (L' := ([] : Hp) ++ _) (perm_front (A := ([] : Hp)) (perm_front (A := [_, _]) (List.Perm.refl _)))) (L' := ([] : Hp) ++ _) (perm_front (A := ([] : Hp)) (perm_front (A := ([] : Hp)) (perm_front (A := [_, _]) (List.Perm.refl _))))) (L' := ([] : Hp) ++ _) (perm_front (A := ([] : Hp)) (perm_front (A := ([] : Hp)) (perm_front (A := ([] : Hp)) (perm_front (A := [_, _]) (List.Perm.refl _)))))) (OwnF.nil _ _) (OwnF.nil _ _) (OwnF.nil _ _) (OwnN.nil _ _ _)
  have hs17 := (St.perm (St.perm hs14 (L' := [_] ++ _) (perm_front (A := L15) (perm_front (A := [_]) (List.Perm.refl _)))) (L' := [_] ++ _) (perm_front (A := [_]) (perm_front (A := L15) (List.Perm.refl _))))
  refine ⟨⟨0, 0, ⟨0, 0, ⟨none, 0, 0, []⟩⟩, ⟨0, 0, ⟨none, 0, 0, []⟩⟩, false, 0, 0, false, ⟨0, 0, false, false, false⟩, 0, 0, false, false, 0, 0, ⟨0, 0, false, false, false⟩, ⟨none, 0, 0, []⟩, 0, ⟨none, 0, 0, []⟩⟩, _, rfl, (St.keep1 (St.perm hs17 (L' := L15 ++ _) (perm_front (A := [_, _]) (List.Perm.refl _)))), ?_, ?_⟩
  · exact (by exact ho16)
  · unfold scrDownRes; rw [hk]; rfl
 ·have qh8 := h8
  try simp only [bf, within_iff, within_not] at qh8
  have hk : scrOk s.dat = true := by have h9 := h8; simpa using h9
  have hf := ScrFine.of hk
  refine WC.skip ?_
  refine hK6 _ _ ?_
  refine WC.sr ?_
  refine WL.run tbk 1 hs7 [1] rfl ⟨rfl, trivial⟩ ?_
  refine WL.call rfl rfl rfl (Run.call Tryz.call64 rfl rfl rfl) (c_spec_l09Copy s _ (okScrR.st0 f_s hs7) ?_) ?_
  · first | (first | assumption | rfl | omega) | (first | assumption | (rw [hk]; assumption))
  rintro _ whs18 ⟨r19, L1_20, rfl, hs18, ho21, hd22⟩
  replace hs18 := hs7.callF hs18
  refine ⟨_, rfl, ?_⟩
  replace hs18 := St.back [_, _] hs18
  have hcp := hd22
  have hfc : ScrFine (ScrR.dat _) := hcp.symm ▸ hf
  refine WL.call rfl rfl rfl (Run.call Tryz.call142 rfl rfl rfl) (c_spec_l09Down r19 _ _ ho21 (fun p_ hp_ => (hs18.own p_ (List.mem_append_right [_, _] (List.mem_append_left _ hp_))).1) (St.nodupL (St.perm hs18 (L' := L1_20 ++ _) (perm_front (A := [_, _]) (List.Perm.refl _)))) ?_ ?_) ?_
  · first | (first | assumption | rfl | omega) | (first | assumption | (rw [hd22]; assumption))
  · first | (first | assumption | rfl | omega) | (first | assumption | (rw [hd22]; assumption))
  rintro _ whs23 ⟨r24, L1_25, rfl, hs23, ho26, hd27⟩
  replace hs23 := St.lend (St.perm hs18 (L' := L1_20 ++ _) (perm_front (A := [_, _]) (List.Perm.refl _))) hs23
  refine ⟨_, rfl, ?_⟩
  replace hs23 := St.back [_, _] hs23
  refine WL.st tbk hs23 0 rfl rfl (fun _ hs28 => ?_)
  refine WL.nil ?_
  refine WC.ret ?_
  refine retV1 rfl (resV.cellA tbk hs28 0 rfl rfl rfl rfl) ?_
  refine ⟨r24, _, rfl, (St.keep1 (St.perm hs28 (L' := L1_25 ++ _) (perm_front (A := [_, _]) (List.Perm.refl _)))), ?_, ?_⟩
  · exact ho26
  · unfold scrDownRes; rw [hk]; exact hd27.trans (by rw [hcp]; rfl)
theorem c_spec_ScrUp (s : ScrR) (w : World) (f_s : okScrR 549755813888 w s) (hsm : smScr 1048576 s.dat) :
    Calls Tryz.prog 66 #[.agg #[i64 s.W, i64 s.H, i64 s.Main.W, i64 s.Main.H, .slice s.Main.Cells.A s.Main.Cells.n s.Main.Cells.c, i64 s.Alt.W, i64 s.Alt.H, .slice s.Alt.Cells.A s.Alt.Cells.n s.Alt.Cells.c, .bool s.OnAlt, i64 s.X, i64 s.Y, .bool s.Wrap, i64 s.A.Fg, i64 s.A.Bg, .bool s.A.Bold, .bool s.A.Under, .bool s.A.Turn, i64 s.Top, i64 s.Bot, .bool s.NoWrap, .bool s.Hide, i64 s.SaveX, i64 s.SaveY, i64 s.SaveA.Fg, i64 s.SaveA.Bg, .bool s.SaveA.Bold, .bool s.SaveA.Under, .bool s.SaveA.Turn, .slice s.Tabs.A s.Tabs.n s.Tabs.c, i64 s.Limit, .slice s.Back.A s.Back.n s.Back.c]] w fun e w' => ∃ r L1, e = .returned (.agg #[i64 r.W, i64 r.H, i64 r.Main.W, i64 r.Main.H, .slice r.Main.Cells.A r.Main.Cells.n r.Main.Cells.c, i64 r.Alt.W, i64 r.Alt.H, .slice r.Alt.Cells.A r.Alt.Cells.n r.Alt.Cells.c, .bool r.OnAlt, i64 r.X, i64 r.Y, .bool r.Wrap, i64 r.A.Fg, i64 r.A.Bg, .bool r.A.Bold, .bool r.A.Under, .bool r.A.Turn, i64 r.Top, i64 r.Bot, .bool r.NoWrap, .bool r.Hide, i64 r.SaveX, i64 r.SaveY, i64 r.SaveA.Fg, i64 r.SaveA.Bg, .bool r.SaveA.Bold, .bool r.SaveA.Under, .bool r.SaveA.Turn, .slice r.Tabs.A r.Tabs.n r.Tabs.c, i64 r.Limit, .slice r.Back.A r.Back.n r.Back.c]) ∧ St w [] L1 w' ∧ ownScrR r L1 ∧ r.dat = scrUpRes s.dat := by
 have nb_s_Main_Cells := f_s.Main.Cells_n
 have nl_s_Main_Cells := f_s.Main.Cells.len
 have nb_s_Alt_Cells := f_s.Alt.Cells_n
 have nl_s_Alt_Cells := f_s.Alt.Cells.len
 have nb_s_Tabs := f_s.Tabs_n
 have nl_s_Tabs := f_s.Tabs.len
 have nb_s_Back := f_s.Back_n
 have nl_s_Back := f_s.Back.sl.len
 have hsmB : smScr 549755813888 s.dat := by first | assumption | exact smScr_mono hsm (by decide)
 refine enter (vs := [.agg #[i64 s.W, i64 s.H, i64 s.Main.W, i64 s.Main.H, .slice s.Main.Cells.A s.Main.Cells.n s.Main.Cells.c, i64 s.Alt.W, i64 s.Alt.H, .slice s.Alt.Cells.A s.Alt.Cells.n s.Alt.Cells.c, .bool s.OnAlt, i64 s.X, i64 s.Y, .bool s.Wrap, i64 s.A.Fg, i64 s.A.Bg, .bool s.A.Bold, .bool s.A.Under, .bool s.A.Turn, i64 s.Top, i64 s.Bot, .bool s.NoWrap, .bool s.Hide, i64 s.SaveX, i64 s.SaveY, i64 s.SaveA.Fg, i64 s.SaveA.Bg, .bool s.SaveA.Bold, .bool s.SaveA.Under, .bool s.SaveA.Turn, .slice s.Tabs.A s.Tabs.n s.Tabs.c, i64 s.Limit, .slice s.Back.A s.Back.n s.Back.c]]) 33 Tryz.func66 rfl Tryz.ntmps66 rfl rfl ?_
 have hs1 := St.init w
 refine WC.sr ?_
 refine WL.bx hs1 rfl (fun b2 _ hs3 => ?_)
 refine WL.al hs3 Tryz.zeroValue33 rfl rfl (fun b4 _ hs5 => ?_)
 refine WL.nil ?_
 refine WC.seq (fun K6 hK6 => ?_)
 refine WC.sr ?_
 refine WL.run tbk 1 hs5 [1] rfl ⟨rfl, trivial⟩ ?_
 refine WL.call rfl rfl rfl (Run.call Tryz.call63 rfl rfl rfl) (c_spec_ScrOk s _ (okScrR.st0 f_s hs5)) ?_
 rintro _ whs7 ⟨rfl, hs7⟩
 replace hs7 := hs5.call0 hs7
 refine ⟨_, rfl, ?_⟩
 refine WL.run tbk 1 hs7 [] rfl trivial ?_
 refine WL.nil ?_
 refine WC.cond rfl (fun h8 => ?_) (fun h8 => ?_)
 ·have qh8 := h8
  try simp only [bf, within_iff, within_not] at qh8
  have hk : scrOk s.dat = false := by have h9 := h8; simpa using h9
  refine WC.sr ?_
  refine WL.val rfl rfl rfl (Run.build rfl rfl rfl rfl (built_33)) ?_
  refine WL.st tbk hs7 0 rfl rfl (fun _ hs9 => ?_)
  refine WL.nil ?_
  refine WC.ret ?_
  refine tkR ?_
  clear hK6
  refine retV1 rfl (resV.cellA tbk hs9 0 rfl rfl rfl rfl) ?_
  obtain ⟨L15, hs14, ho16⟩ := ownScrR.fold ⟨0, 0, ⟨0, 0, ⟨_, _, _, _⟩⟩, ⟨0, 0, ⟨_, _, _, _⟩⟩, false, 0, 0, false, ⟨0, 0, false, false, false⟩, 0, 0, false, false, 0, 0, ⟨0, 0, false, false, false⟩, ⟨_, _, _, _⟩, 0, ⟨_, _, _, _⟩⟩ (St.perm (St.perm (St.perm (St.perm hs9 (L' := ([] : Hp) ++ _) (perm_front (A := [_, _]) (List.Perm.refl _))) (L' := ([] : Hp) ++ _) (perm_front (A := ([] : Hp)) (perm_front (A := [_, _]) (List.Perm.refl _)))) (L' := ([] : Hp) ++ _) (perm_front (A := ([] : Hp)) (perm_front (A := ([] : Hp)) (perm_front (A := [_, _]) (List.Perm.refl _))))) (L' := ([] : Hp) ++ _) (perm_front (A := ([] : Hp)) (perm_front (A := ([] : Hp)) (perm_front (A := ([] : Hp)) (perm_front (A := [_, _]) (List.Perm.refl _)))))) (OwnF.nil _ _) (OwnF.nil _ _) (OwnF.nil _ _) (OwnN.nil _ _ _)
  have hs17 := (St.perm (St.perm hs14 (L' := [_] ++ _) (perm_front (A := L15) (perm_front (A := [_]) (List.Perm.refl _)))) (L' := [_] ++ _) (perm_front (A := [_]) (perm_front (A := L15) (List.Perm.refl _))))
  refine ⟨⟨0, 0, ⟨0, 0, ⟨none, 0, 0, []⟩⟩, ⟨0, 0, ⟨none, 0, 0, []⟩⟩, false, 0, 0, false, ⟨0, 0, false, false, false⟩, 0, 0, false, false, 0, 0, ⟨0, 0, false, false, false⟩, ⟨none, 0, 0, []⟩, 0, ⟨none, 0, 0, []⟩⟩, _, rfl, (St.keep1 (St.perm hs17 (L' := L15 ++ _) (perm_front (A := [_, _]) (List.Perm.refl _)))), ?_, ?_⟩
  · exact (by exact ho16)
  · unfold scrUpRes; rw [hk]; rfl
 ·have qh8 := h8
  try simp only [bf, within_iff, within_not] at qh8
  have hk : scrOk s.dat = true := by have h9 := h8; simpa using h9
  have hf := ScrFine.of hk
  have hgs : gridOk (shownR s).dat = true := by rw [shownR_dat]; exact hf.shown.1
  have hts : 0 ≤ s.Top ∧ s.Top ≤ s.Bot ∧ s.Bot < (shownR s).H := by have h9 : (shownR s).H = (shownD s.dat).H := congrArg GridD.H shownR_dat; rw [h9, hf.shown.2.2]; exact ⟨hf.reg.1.1, hf.reg.1.2, hf.reg.2.1⟩
  have hyb := hf.pos.2
  refine WC.skip ?_
  refine hK6 _ _ ?_
  refine WC.sr ?_
  refine WL.run tbk 1 hs7 [1] rfl ⟨rfl, trivial⟩ ?_
  refine WL.call rfl rfl rfl (Run.call Tryz.call64 rfl rfl rfl) (c_spec_l09Copy s _ (okScrR.st0 f_s hs7) ?_) ?_
  · first | (first | assumption | rfl | omega) | (first | assumption | omega | (rw [hcp]; assumption))
  rintro _ whs18 ⟨r19, L1_20, rfl, hs18, ho21, hd22⟩
  replace hs18 := hs7.callF hs18
  refine ⟨_, rfl, ?_⟩
  replace hs18 := St.back [_, _] hs18
  have hcp := hd22
  refine WL.al hs18 Tryz.zeroValue33 rfl rfl (fun b23 _ hs24 => ?_)
  refine WL.st tbk hs24 0 rfl rfl (fun _ hs25 => ?_)
  refine WL.nil ?_
  refine WC.sr ?_
  refine WL.run tbk 1 hs25 [] rfl trivial ?_
  refine WL.st tbk hs25 0 rfl rfl (fun _ hs26 => ?_)
  refine WL.nil ?_
  refine WC.seq (fun K27 hK27 => ?_)
  refine WC.rr tbk hs26 [2, 2] rfl ⟨rfl, rfl, trivial⟩ ?_
  refine WC.cond rfl (fun h28 => ?_) (fun h28 => ?_)
  ·have qh28 := h28
   try simp only [bf, within_iff, within_not] at qh28
   have e1 : s.dat.Y = s.dat.Top := by show s.Y = s.Top; have h9 := h28; simpa using h9
   refine WC.seq (fun K29 hK29 => ?_)
   refine WC.regionG 9 (fun w' => St _ _ _ w') (fun w' => St _ _ _ w') (fun w' => St _ _ _ w') mixed (St.drew (St.drop (St.perm (St.drop hs26 (List.Sublist.cons_cons _ (List.Sublist.cons _ (List.Sublist.cons_cons _ (List.Sublist.refl _))))) (L' := L1_20 ++ _) (perm_front (A := [_, _]) (List.Perm.refl _))) (List.sublist_append_right L1_20 _))) (St.drew (St.drop (St.perm hs26 (L' := L1_20 ++ _) (perm_front (A := [_, _, _]) (List.Perm.refl _))) (List.sublist_append_right L1_20 _))) (St.drew hs26) (fun whs30 hs30 => ?_)
   replace hs30 : St _ _ _ _ := hs30
   refine WG.take 0 rfl (by kernel_rfl) (by kernel_rfl) rfl rfl rfl (St.drop (St.perm hs30 (L' := L1_20 ++ _) (perm_front (A := [_, _, _]) (List.Perm.refl _))) (List.sublist_append_right L1_20 _)) (fun w_ hs_ => (Run.loadLA (hs_ : St _ _ _ _) 0 Tryz.isAgg33 Tryz.sizeOf33 rfl rfl rfl rfl rfl)) ?_
   refine WG.take 1 rfl (by kernel_rfl) (by kernel_rfl) rfl rfl rfl (St.drop (St.perm hs30 (L' := L1_20 ++ _) (perm_front (A := [_, _, _]) (List.Perm.refl _))) (List.sublist_append_right L1_20 _)) (fun w_ hs_ => (Run.loadLA (hs_ : St _ _ _ _) 2 Tryz.isAgg33 Tryz.sizeOf33 rfl rfl rfl rfl rfl)) ?_
   refine WG.take 3 rfl (by kernel_rfl) (by kernel_rfl) rfl rfl rfl (St.drop (St.perm hs30 (L' := L1_20 ++ _) (perm_front (A := [_, _, _]) (List.Perm.refl _))) (List.sublist_append_right L1_20 _)) (fun w_ hs_ => (Run.field Tryz.runUnderlying33 rfl rfl rfl Tryz.sizeOf3 rfl)) ?_
   refine WG.take 4 rfl (by kernel_rfl) (by kernel_rfl) rfl rfl rfl (St.drop (St.perm hs30 (L' := L1_20 ++ _) (perm_front (A := [_, _, _]) (List.Perm.refl _))) (List.sublist_append_right L1_20 _)) (fun w_ hs_ => (Run.loadL (hs_ : St _ _ _ _) 2 Tryz.isAgg3 rfl rfl rfl rfl)) ?_
   refine WG.take 5 rfl (by kernel_rfl) (by kernel_rfl) rfl rfl rfl (St.drop (St.perm hs30 (L' := L1_20 ++ _) (perm_front (A := [_, _, _]) (List.Perm.refl _))) (List.sublist_append_right L1_20 _)) (fun w_ hs_ => (Run.field Tryz.runUnderlying33 rfl rfl rfl Tryz.sizeOf3 rfl)) ?_
   refine WG.take 6 rfl (by kernel_rfl) (by kernel_rfl) rfl rfl rfl (St.drop (St.perm hs30 (L' := L1_20 ++ _) (perm_front (A := [_, _, _]) (List.Perm.refl _))) (List.sublist_append_right L1_20 _)) (fun w_ hs_ => (Run.loadL (hs_ : St _ _ _ _) 2 Tryz.isAgg3 rfl rfl rfl rfl)) ?_
   refine WG.all [2] (by kernel_rfl) rfl (WGs.cons (i := 2) rfl rfl ?_ WGs.nil)
   refine WL.call rfl rfl rfl (Run.call Tryz.call145 rfl rfl rfl) (c_spec_l09Shown s _ (okScrR.st0 f_s hs30)) ?_
   rintro _ whs32 ⟨rfl, hs32⟩
   replace hs32 := hs30.call0 hs32
   refine ⟨_, rfl, ?_⟩
   refine WL.nil ⟨(St.drop (St.perm hs32 (L' := L1_20 ++ _) (perm_front (A := [_, _, _]) (List.Perm.refl _))) (List.sublist_append_right L1_20 _)), ?_⟩
   refine WG.all [7] (by kernel_rfl) rfl (WGs.cons (i := 7) rfl rfl ?_ WGs.nil)
   refine WL.call rfl rfl rfl (Run.call Tryz.call144 rfl rfl rfl) (c_spec_GridRoll (shownR s) _ _ _ _ (okScrR.shown (okScrR.st0 f_s hs32)) ?_ ?_ ?_) ?_
   · first | (first | assumption | rfl | omega) | (first | assumption | omega | (rw [hcp]; assumption))
   · first | (first | assumption | rfl | omega) | (first | assumption | omega | (rw [hcp]; assumption))
   · first | (first | assumption | rfl | omega) | (first | assumption | omega | (rw [hcp]; assumption))
   rintro _ whs33 ⟨r34, L1_35, rfl, hs33, ho36, hd37⟩
   replace hs33 := hs32.callF hs33
   refine ⟨_, rfl, ?_⟩
   replace hs33 := St.back [_, _, _] hs33
   have hgr := hd37
   refine WL.nil ⟨(St.drop (St.perm (St.drop (St.perm hs33 (L' := L1_35 ++ _) (perm_front (A := [_, _, _]) (List.Perm.refl _))) (List.sublist_append_right L1_35 _)) (L' := L1_20 ++ _) (perm_front (A := [_, _, _]) (List.Perm.refl _))) (List.sublist_append_right L1_20 _)), ?_⟩
   refine WG.all [8] (by kernel_rfl) rfl (WGs.cons (i := 8) rfl rfl ?_ WGs.nil)
   obtain ⟨L38, L39, L40, L41, hs46, ho42, ho43, ho44, ho45⟩ := ownScrR.open_ (St.perm hs33 (L' := L1_20 ++ _) (perm_front (A := [_, _, _]) (perm_front (A := L1_35) (List.Perm.refl _)))) ho21
   have hs47 := (St.perm (St.perm (St.perm hs46 (L' := [_] ++ _) (perm_front (A := L38) (perm_front (A := L39) (perm_front (A := L40) (perm_front (A := L41) (perm_front (A := [_, _]) (List.Perm.refl _))))))) (L' := [_] ++ _) (perm_front (A := [_]) (perm_front (A := L38) (perm_front (A := L39) (perm_front (A := L40) (perm_front (A := L41) (perm_front (A := [_]) (List.Perm.refl _)))))))) (L' := [_] ++ _) (perm_front (A := [_, _]) (perm_front (A := L38) (perm_front (A := L39) (perm_front (A := L40) (perm_front (A := L41) (List.Perm.refl _)))))))
   obtain ⟨L49, hs48, ho50⟩ := ownScrR.fold ⟨0, 0, ⟨0, 0, ⟨_, _, _, _⟩⟩, ⟨0, 0, ⟨_, _, _, _⟩⟩, false, 0, 0, false, ⟨0, 0, false, false, false⟩, 0, 0, false, false, 0, 0, ⟨0, 0, false, false, false⟩, ⟨_, _, _, _⟩, 0, ⟨_, _, _, _⟩⟩ (St.perm (St.perm (St.perm (St.perm hs47 (L' := L41 ++ _) (perm_front (A := [_, _, _]) (perm_front (A := L38) (perm_front (A := L39) (perm_front (A := L40) (List.Perm.refl _)))))) (L' := L40 ++ _) (perm_front (A := L41) (perm_front (A := [_, _, _]) (perm_front (A := L38) (perm_front (A := L39) (List.Perm.refl _)))))) (L' := L39 ++ _) (perm_front (A := L40) (perm_front (A := L41) (perm_front (A := [_, _, _]) (perm_front (A := L38) (List.Perm.refl _)))))) (L' := L38 ++ _) (perm_front (A := L39) (perm_front (A := L40) (perm_front (A := L41) (perm_front (A := [_, _, _]) (List.Perm.refl _)))))) ho42 ho43 ho44 ho45
   have hs51 := (St.perm (St.perm (St.perm hs48 (L' := [_] ++ _) (perm_front (A := L49) (perm_front (A := [_, _]) (List.Perm.refl _)))) (L' := [_] ++ _) (perm_front (A := [_]) (perm_front (A := L49) (perm_front (A := [_]) (List.Perm.refl _))))) (L' := [_] ++ _) (perm_front (A := [_, _]) (perm_front (A := L49) (List.Perm.refl _))))
   refine WL.call rfl rfl rfl (Run.call Tryz.call143 rfl rfl rfl) (c_spec_l09Put ⟨r19.W, r19.H, ⟨r19.Main.W, r19.Main.H, SlD.of ho42⟩, ⟨r19.Alt.W, r19.Alt.H, SlD.of ho43⟩, r19.OnAlt, r19.X, r19.Y, false, ⟨r19.A.Fg, r19.A.Bg, r19.A.Bold, r19.A.Under, r19.A.Turn⟩, r19.Top, r19.Bot, r19.NoWrap, r19.Hide, r19.SaveX, r19.SaveY, ⟨r19.SaveA.Fg, r19.SaveA.Bg, r19.SaveA.Bold, r19.SaveA.Under, r19.SaveA.Turn⟩, SlD.of ho44, r19.Limit, SlD.ofN ho45⟩ _ r34 _ _ (by exact ho50) (fun p_ hp_ => (hs51.own p_ (List.mem_append_right [_, _, _] (List.mem_append_left _ hp_))).1) ho36 (fun p_ hp_ => (hs51.own p_ (List.mem_append_right [_, _, _] (List.mem_append_right _ (List.mem_append_left _ hp_)))).1) (St.nodupL (St.grp2 (L1 := L49) (L2 := L1_35) [] (St.perm (St.perm hs51 (L' := L1_35 ++ _) (perm_front (A := [_, _, _]) (perm_front (A := L49) (List.Perm.refl _)))) (L' := L49 ++ _) (perm_front (A := L1_35) (perm_front (A := [_, _, _]) (List.Perm.refl _))))))) ?_
   rintro _ whs52 ⟨r53, L1_54, rfl, hs52, ho55, hd56⟩
   replace hs52 := St.lend (St.grp2 (L1 := L49) (L2 := L1_35) [] (St.perm (St.perm hs51 (L' := L1_35 ++ _) (perm_front (A := [_, _, _]) (perm_front (A := L49) (List.Perm.refl _)))) (L' := L49 ++ _) (perm_front (A := L1_35) (perm_front (A := [_, _, _]) (List.Perm.refl _))))) hs52
   refine ⟨_, rfl, ?_⟩
   replace hs52 := St.back [_, _, _] hs52
   have hpt := hd56
   refine WL.nil ⟨(St.drop (St.perm hs52 (L' := L1_54 ++ _) (perm_front (A := [_, _, _]) (List.Perm.refl _))) (List.sublist_append_right L1_54 _)), ?_⟩
   refine WG.all [9] (by kernel_rfl) rfl (WGs.consK rfl ?_ WGs.nil)
   refine WL.st tbk hs52 1 rfl rfl (fun _ hs57 => ?_)
   refine WL.nil ⟨(St.drop (St.perm (St.drop hs57 (List.Sublist.cons_cons _ (List.Sublist.cons _ (List.Sublist.cons_cons _ (List.Sublist.refl _))))) (L' := L1_54 ++ _) (perm_front (A := [_, _]) (List.Perm.refl _))) (List.sublist_append_right L1_54 _)), ?_⟩
   refine WH.done (by kernel_rfl) ?_
   refine hK29 _ _ ?_
   refine WC.ret ?_
   refine tkR ?_
   clear hK27
   refine retV1 rfl (resV.cellA tbk hs57 1 rfl rfl rfl rfl) ?_
   refine ⟨r53, _, rfl, (St.keep1 (St.perm hs57 (L' := L1_54 ++ _) (perm_front (A := [_, _, _]) (List.Perm.refl _)))), ?_, ?_⟩
   · exact ho55
   · unfold scrUpRes; rw [hk]; show _ = upD s.dat; unfold upD; rw [if_pos e1]; refine hpt.trans ?_; rw [hgr, shownR_dat]; show putD (wrapD (ScrR.dat _) false) _ = _; rw [put_wrap, hcp]; rfl
  ·have qh28 := h28
   try simp only [bf, within_iff, within_not] at qh28
   have e1 : ¬ s.dat.Y = s.dat.Top := by show ¬ s.Y = s.Top; have h9 := h28; simpa using h9
   refine WC.skip ?_
   refine hK27 _ _ ?_
   refine WC.seq (fun K58 hK58 => ?_)
   refine WC.rr tbk hs26 [2] rfl ⟨rfl, trivial⟩ ?_
   refine WC.cond rfl (fun h59 => ?_) (fun h59 => ?_)
   ·have qh59 := h59
    try simp only [bf, within_iff, within_not] at qh59
    have e2 : s.dat.Y > 0 := by show s.Y > 0; have h9 := h59; simpa using h9
    refine WC.region ?_
    refine WL.run tbk 4 hs26 [0] rfl ⟨?_, rfl, trivial⟩ ?_
    · (have e9 := congrArg ScrD.Y hcp; simp only [ScrR.dat] at e9 hyb hk; have e8 : s.H ≤ 120 := (isSize_bnd hf.size).2.1.2; constructor <;> omega)
    refine WL.st tbk hs26 0 rfl rfl (fun _ hs60 => ?_)
    refine WL.nil ?_
    refine hK58 _ _ ?_
    refine WC.sr ?_
    refine WL.run tbk 1 hs60 [0] rfl ⟨rfl, trivial⟩ ?_
    refine WL.st tbk hs60 1 rfl rfl (fun _ hs61 => ?_)
    refine WL.nil ?_
    refine WC.ret ?_
    refine retV1 rfl (resV.cellA tbk hs61 1 rfl rfl rfl rfl) ?_
    obtain ⟨L62, L63, L64, L65, hs70, ho66, ho67, ho68, ho69⟩ := ownScrR.open_ (St.perm hs61 (L' := L1_20 ++ _) (perm_front (A := [_, _, _]) (List.Perm.refl _))) ho21
    have hs71 := (St.perm (St.perm (St.perm hs70 (L' := [_] ++ _) (perm_front (A := L62) (perm_front (A := L63) (perm_front (A := L64) (perm_front (A := L65) (perm_front (A := [_, _]) (List.Perm.refl _))))))) (L' := [_] ++ _) (perm_front (A := [_]) (perm_front (A := L62) (perm_front (A := L63) (perm_front (A := L64) (perm_front (A := L65) (perm_front (A := [_]) (List.Perm.refl _)))))))) (L' := [_] ++ _) (perm_front (A := [_, _]) (perm_front (A := L62) (perm_front (A := L63) (perm_front (A := L64) (perm_front (A := L65) (List.Perm.refl _)))))))
    obtain ⟨L73, hs72, ho74⟩ := ownScrR.fold ⟨0, 0, ⟨0, 0, ⟨_, _, _, _⟩⟩, ⟨0, 0, ⟨_, _, _, _⟩⟩, false, 0, 0, false, ⟨0, 0, false, false, false⟩, 0, 0, false, false, 0, 0, ⟨0, 0, false, false, false⟩, ⟨_, _, _, _⟩, 0, ⟨_, _, _, _⟩⟩ (St.perm (St.perm (St.perm (St.perm hs71 (L' := L65 ++ _) (perm_front (A := [_, _, _]) (perm_front (A := L62) (perm_front (A := L63) (perm_front (A := L64) (List.Perm.refl _)))))) (L' := L64 ++ _) (perm_front (A := L65) (perm_front (A := [_, _, _]) (perm_front (A := L62) (perm_front (A := L63) (List.Perm.refl _)))))) (L' := L63 ++ _) (perm_front (A := L64) (perm_front (A := L65) (perm_front (A := [_, _, _]) (perm_front (A := L62) (List.Perm.refl _)))))) (L' := L62 ++ _) (perm_front (A := L63) (perm_front (A := L64) (perm_front (A := L65) (perm_front (A := [_, _, _]) (List.Perm.refl _)))))) ho66 ho67 ho68 ho69
    have hs75 := (St.perm (St.perm (St.perm hs72 (L' := [_] ++ _) (perm_front (A := L73) (perm_front (A := [_, _]) (List.Perm.refl _)))) (L' := [_] ++ _) (perm_front (A := [_]) (perm_front (A := L73) (perm_front (A := [_]) (List.Perm.refl _))))) (L' := [_] ++ _) (perm_front (A := [_, _]) (perm_front (A := L73) (List.Perm.refl _))))
    refine ⟨⟨r19.W, r19.H, ⟨r19.Main.W, r19.Main.H, SlD.of ho66⟩, ⟨r19.Alt.W, r19.Alt.H, SlD.of ho67⟩, r19.OnAlt, r19.X, (r19.Y - (1)), false, ⟨r19.A.Fg, r19.A.Bg, r19.A.Bold, r19.A.Under, r19.A.Turn⟩, r19.Top, r19.Bot, r19.NoWrap, r19.Hide, r19.SaveX, r19.SaveY, ⟨r19.SaveA.Fg, r19.SaveA.Bg, r19.SaveA.Bold, r19.SaveA.Under, r19.SaveA.Turn⟩, SlD.of ho68, r19.Limit, SlD.ofN ho69⟩, _, rfl, (St.keep1 (St.perm hs75 (L' := L73 ++ _) (perm_front (A := [_, _, _]) (List.Perm.refl _)))), ?_, ?_⟩
    · exact (by exact ho74)
    · unfold scrUpRes; rw [hk]; show _ = upD s.dat; unfold upD; rw [if_neg e1, if_pos e2, ← hcp]; rfl
   ·have qh59 := h59
    try simp only [bf, within_iff, within_not] at qh59
    have e2 : ¬ s.dat.Y > 0 := by show ¬ s.Y > 0; have h9 := h59; simpa using h9
    refine WC.skip ?_
    refine hK58 _ _ ?_
    refine WC.sr ?_
    refine WL.run tbk 1 hs26 [0] rfl ⟨rfl, trivial⟩ ?_
    refine WL.st tbk hs26 1 rfl rfl (fun _ hs76 => ?_)
    refine WL.nil ?_
    refine WC.ret ?_
    refine retV1 rfl (resV.cellA tbk hs76 1 rfl rfl rfl rfl) ?_
    obtain ⟨L77, L78, L79, L80, hs85, ho81, ho82, ho83, ho84⟩ := ownScrR.open_ (St.perm hs76 (L' := L1_20 ++ _) (perm_front (A := [_, _, _]) (List.Perm.refl _))) ho21
    have hs86 := (St.perm (St.perm (St.perm hs85 (L' := [_] ++ _) (perm_front (A := L77) (perm_front (A := L78) (perm_front (A := L79) (perm_front (A := L80) (perm_front (A := [_, _]) (List.Perm.refl _))))))) (L' := [_] ++ _) (perm_front (A := [_]) (perm_front (A := L77) (perm_front (A := L78) (perm_front (A := L79) (perm_front (A := L80) (perm_front (A := [_]) (List.Perm.refl _)))))))) (L' := [_] ++ _) (perm_front (A := [_, _]) (perm_front (A := L77) (perm_front (A := L78) (perm_front (A := L79) (perm_front (A := L80) (List.Perm.refl _)))))))
    obtain ⟨L88, hs87, ho89⟩ := ownScrR.fold ⟨0, 0, ⟨0, 0, ⟨_, _, _, _⟩⟩, ⟨0, 0, ⟨_, _, _, _⟩⟩, false, 0, 0, false, ⟨0, 0, false, false, false⟩, 0, 0, false, false, 0, 0, ⟨0, 0, false, false, false⟩, ⟨_, _, _, _⟩, 0, ⟨_, _, _, _⟩⟩ (St.perm (St.perm (St.perm (St.perm hs86 (L' := L80 ++ _) (perm_front (A := [_, _, _]) (perm_front (A := L77) (perm_front (A := L78) (perm_front (A := L79) (List.Perm.refl _)))))) (L' := L79 ++ _) (perm_front (A := L80) (perm_front (A := [_, _, _]) (perm_front (A := L77) (perm_front (A := L78) (List.Perm.refl _)))))) (L' := L78 ++ _) (perm_front (A := L79) (perm_front (A := L80) (perm_front (A := [_, _, _]) (perm_front (A := L77) (List.Perm.refl _)))))) (L' := L77 ++ _) (perm_front (A := L78) (perm_front (A := L79) (perm_front (A := L80) (perm_front (A := [_, _, _]) (List.Perm.refl _)))))) ho81 ho82 ho83 ho84
    have hs90 := (St.perm (St.perm (St.perm hs87 (L' := [_] ++ _) (perm_front (A := L88) (perm_front (A := [_, _]) (List.Perm.refl _)))) (L' := [_] ++ _) (perm_front (A := [_]) (perm_front (A := L88) (perm_front (A := [_]) (List.Perm.refl _))))) (L' := [_] ++ _) (perm_front (A := [_, _]) (perm_front (A := L88) (List.Perm.refl _))))
    refine ⟨⟨r19.W, r19.H, ⟨r19.Main.W, r19.Main.H, SlD.of ho81⟩, ⟨r19.Alt.W, r19.Alt.H, SlD.of ho82⟩, r19.OnAlt, r19.X, r19.Y, false, ⟨r19.A.Fg, r19.A.Bg, r19.A.Bold, r19.A.Under, r19.A.Turn⟩, r19.Top, r19.Bot, r19.NoWrap, r19.Hide, r19.SaveX, r19.SaveY, ⟨r19.SaveA.Fg, r19.SaveA.Bg, r19.SaveA.Bold, r19.SaveA.Under, r19.SaveA.Turn⟩, SlD.of ho83, r19.Limit, SlD.ofN ho84⟩, _, rfl, (St.keep1 (St.perm hs90 (L' := L88 ++ _) (perm_front (A := [_, _, _]) (List.Perm.refl _)))), ?_, ?_⟩
    · exact (by exact ho89)
    · unfold scrUpRes; rw [hk]; show _ = upD s.dat; unfold upD; rw [if_neg e1, if_neg e2, ← hcp]; rfl
theorem c_spec_l10Save (s : ScrR) (L_s : Hp) (w : World) (o_s : ownScrR s L_s) (h_s : ∀ p, p ∈ L_s → w.heap[p.1]? = some p.2) (hd_ : ((L_s).map (·.1)).Nodup) :
    Calls Tryz.prog 67 #[.agg #[i64 s.W, i64 s.H, i64 s.Main.W, i64 s.Main.H, .slice s.Main.Cells.A s.Main.Cells.n s.Main.Cells.c, i64 s.Alt.W, i64 s.Alt.H, .slice s.Alt.Cells.A s.Alt.Cells.n s.Alt.Cells.c, .bool s.OnAlt, i64 s.X, i64 s.Y, .bool s.Wrap, i64 s.A.Fg, i64 s.A.Bg, .bool s.A.Bold, .bool s.A.Under, .bool s.A.Turn, i64 s.Top, i64 s.Bot, .bool s.NoWrap, .bool s.Hide, i64 s.SaveX, i64 s.SaveY, i64 s.SaveA.Fg, i64 s.SaveA.Bg, .bool s.SaveA.Bold, .bool s.SaveA.Under, .bool s.SaveA.Turn, .slice s.Tabs.A s.Tabs.n s.Tabs.c, i64 s.Limit, .slice s.Back.A s.Back.n s.Back.c]] w fun e w' => ∃ r L1, e = .returned (.agg #[i64 r.W, i64 r.H, i64 r.Main.W, i64 r.Main.H, .slice r.Main.Cells.A r.Main.Cells.n r.Main.Cells.c, i64 r.Alt.W, i64 r.Alt.H, .slice r.Alt.Cells.A r.Alt.Cells.n r.Alt.Cells.c, .bool r.OnAlt, i64 r.X, i64 r.Y, .bool r.Wrap, i64 r.A.Fg, i64 r.A.Bg, .bool r.A.Bold, .bool r.A.Under, .bool r.A.Turn, i64 r.Top, i64 r.Bot, .bool r.NoWrap, .bool r.Hide, i64 r.SaveX, i64 r.SaveY, i64 r.SaveA.Fg, i64 r.SaveA.Bg, .bool r.SaveA.Bold, .bool r.SaveA.Under, .bool r.SaveA.Turn, .slice r.Tabs.A r.Tabs.n r.Tabs.c, i64 r.Limit, .slice r.Back.A r.Back.n r.Back.c]) ∧ St w ((L_s).map (·.1)) L1 w' ∧ ownScrR r L1 ∧ r.dat = saveD s.dat := by
 refine enter (vs := [.agg #[i64 s.W, i64 s.H, i64 s.Main.W, i64 s.Main.H, .slice s.Main.Cells.A s.Main.Cells.n s.Main.Cells.c, i64 s.Alt.W, i64 s.Alt.H, .slice s.Alt.Cells.A s.Alt.Cells.n s.Alt.Cells.c, .bool s.OnAlt, i64 s.X, i64 s.Y, .bool s.Wrap, i64 s.A.Fg, i64 s.A.Bg, .bool s.A.Bold, .bool s.A.Under, .bool s.A.Turn, i64 s.Top, i64 s.Bot, .bool s.NoWrap, .bool s.Hide, i64 s.SaveX, i64 s.SaveY, i64 s.SaveA.Fg, i64 s.SaveA.Bg, .bool s.SaveA.Bold, .bool s.SaveA.Under, .bool s.SaveA.Turn, .slice s.Tabs.A s.Tabs.n s.Tabs.c, i64 s.Limit, .slice s.Back.A s.Back.n s.Back.c]]) 13 Tryz.func67 rfl Tryz.ntmps67 rfl rfl ?_
 have hs1 := St.takes1 w L_s h_s hd_
 refine WC.sr ?_
 refine WL.bx hs1 rfl (fun b2 _ hs3 => ?_)
 refine WL.al hs3 Tryz.zeroValue33 rfl rfl (fun b4 _ hs5 => ?_)
 refine WL.nil ?_
 refine WC.sr ?_
 refine WL.run tbk 3 hs5 [1] rfl ⟨rfl, trivial⟩ ?_
 refine WL.st tbk hs5 1 rfl rfl (fun _ hs6 => ?_)
 refine WL.nil ?_
 refine WC.sr ?_
 refine WL.run tbk 3 hs6 [1] rfl ⟨rfl, trivial⟩ ?_
 refine WL.st tbk hs6 1 rfl rfl (fun _ hs7 => ?_)
 refine WL.nil ?_
 refine WC.sr ?_
 refine WL.run tbk 3 hs7 [1] rfl ⟨rfl, trivial⟩ ?_
 refine WL.st tbk hs7 1 rfl rfl (fun _ hs8 => ?_)
 refine WL.nil ?_
 refine WC.sr ?_
 refine WL.run tbk 1 hs8 [1] rfl ⟨rfl, trivial⟩ ?_
 refine WL.st tbk hs8 0 rfl rfl (fun _ hs9 => ?_)
 refine WL.nil ?_
 refine WC.ret ?_
 refine retV1 rfl (resV.cellA tbk hs9 0 rfl rfl rfl rfl) ?_
 obtain ⟨L10, L11, L12, L13, hs18, ho14, ho15, ho16, ho17⟩ := ownScrR.open_ (St.perm hs9 (L' := L_s ++ _) (perm_front (A := [_, _]) (List.Perm.refl _))) o_s
 have hs19 := (St.perm (St.perm hs18 (L' := [_] ++ _) (perm_front (A := L10) (perm_front (A := L11) (perm_front (A := L12) (perm_front (A := L13) (perm_front (A := [_]) (List.Perm.refl _))))))) (L' := [_] ++ _) (perm_front (A := [_]) (perm_front (A := L10) (perm_front (A := L11) (perm_front (A := L12) (perm_front (A := L13) (List.Perm.refl _)))))))
 obtain ⟨L21, hs20, ho22⟩ := ownScrR.fold ⟨0, 0, ⟨0, 0, ⟨_, _, _, _⟩⟩, ⟨0, 0, ⟨_, _, _, _⟩⟩, false, 0, 0, false, ⟨0, 0, false, false, false⟩, 0, 0, false, false, 0, 0, ⟨0, 0, false, false, false⟩, ⟨_, _, _, _⟩, 0, ⟨_, _, _, _⟩⟩ (St.perm (St.perm (St.perm (St.perm hs19 (L' := L13 ++ _) (perm_front (A := [_, _]) (perm_front (A := L10) (perm_front (A := L11) (perm_front (A := L12) (List.Perm.refl _)))))) (L' := L12 ++ _) (perm_front (A := L13) (perm_front (A := [_, _]) (perm_front (A := L10) (perm_front (A := L11) (List.Perm.refl _)))))) (L' := L11 ++ _) (perm_front (A := L12) (perm_front (A := L13) (perm_front (A := [_, _]) (perm_front (A := L10) (List.Perm.refl _)))))) (L' := L10 ++ _) (perm_front (A := L11) (perm_front (A := L12) (perm_front (A := L13) (perm_front (A := [_, _]) (List.Perm.refl _)))))) ho14 ho15 ho16 ho17
 have hs23 := (St.perm (St.perm hs20 (L' := [_] ++ _) (perm_front (A := L21) (perm_front (A := [_]) (List.Perm.refl _)))) (L' := [_] ++ _) (perm_front (A := [_]) (perm_front (A := L21) (List.Perm.refl _))))
 refine ⟨⟨s.W, s.H, ⟨s.Main.W, s.Main.H, SlD.of ho14⟩, ⟨s.Alt.W, s.Alt.H, SlD.of ho15⟩, s.OnAlt, s.X, s.Y, s.Wrap, ⟨s.A.Fg, s.A.Bg, s.A.Bold, s.A.Under, s.A.Turn⟩, s.Top, s.Bot, s.NoWrap, s.Hide, s.X, s.Y, ⟨s.A.Fg, s.A.Bg, s.A.Bold, s.A.Under, s.A.Turn⟩, SlD.of ho16, s.Limit, SlD.ofN ho17⟩, _, rfl, (St.keep1 (St.perm hs23 (L' := L21 ++ _) (perm_front (A := [_, _]) (List.Perm.refl _)))), ?_, ?_⟩
 · exact (by exact ho22)
 · rfl
theorem c_spec_l10Back (s : ScrR) (L_s : Hp) (w : World) (o_s : ownScrR s L_s) (h_s : ∀ p, p ∈ L_s → w.heap[p.1]? = some p.2) (hd_ : ((L_s).map (·.1)).Nodup) :
    Calls Tryz.prog 68 #[.agg #[i64 s.W, i64 s.H, i64 s.Main.W, i64 s.Main.H, .slice s.Main.Cells.A s.Main.Cells.n s.Main.Cells.c, i64 s.Alt.W, i64 s.Alt.H, .slice s.Alt.Cells.A s.Alt.Cells.n s.Alt.Cells.c, .bool s.OnAlt, i64 s.X, i64 s.Y, .bool s.Wrap, i64 s.A.Fg, i64 s.A.Bg, .bool s.A.Bold, .bool s.A.Under, .bool s.A.Turn, i64 s.Top, i64 s.Bot, .bool s.NoWrap, .bool s.Hide, i64 s.SaveX, i64 s.SaveY, i64 s.SaveA.Fg, i64 s.SaveA.Bg, .bool s.SaveA.Bold, .bool s.SaveA.Under, .bool s.SaveA.Turn, .slice s.Tabs.A s.Tabs.n s.Tabs.c, i64 s.Limit, .slice s.Back.A s.Back.n s.Back.c]] w fun e w' => ∃ r L1, e = .returned (.agg #[i64 r.W, i64 r.H, i64 r.Main.W, i64 r.Main.H, .slice r.Main.Cells.A r.Main.Cells.n r.Main.Cells.c, i64 r.Alt.W, i64 r.Alt.H, .slice r.Alt.Cells.A r.Alt.Cells.n r.Alt.Cells.c, .bool r.OnAlt, i64 r.X, i64 r.Y, .bool r.Wrap, i64 r.A.Fg, i64 r.A.Bg, .bool r.A.Bold, .bool r.A.Under, .bool r.A.Turn, i64 r.Top, i64 r.Bot, .bool r.NoWrap, .bool r.Hide, i64 r.SaveX, i64 r.SaveY, i64 r.SaveA.Fg, i64 r.SaveA.Bg, .bool r.SaveA.Bold, .bool r.SaveA.Under, .bool r.SaveA.Turn, .slice r.Tabs.A r.Tabs.n r.Tabs.c, i64 r.Limit, .slice r.Back.A r.Back.n r.Back.c]) ∧ St w ((L_s).map (·.1)) L1 w' ∧ ownScrR r L1 ∧ r.dat = backD s.dat := by
 refine enter (vs := [.agg #[i64 s.W, i64 s.H, i64 s.Main.W, i64 s.Main.H, .slice s.Main.Cells.A s.Main.Cells.n s.Main.Cells.c, i64 s.Alt.W, i64 s.Alt.H, .slice s.Alt.Cells.A s.Alt.Cells.n s.Alt.Cells.c, .bool s.OnAlt, i64 s.X, i64 s.Y, .bool s.Wrap, i64 s.A.Fg, i64 s.A.Bg, .bool s.A.Bold, .bool s.A.Under, .bool s.A.Turn, i64 s.Top, i64 s.Bot, .bool s.NoWrap, .bool s.Hide, i64 s.SaveX, i64 s.SaveY, i64 s.SaveA.Fg, i64 s.SaveA.Bg, .bool s.SaveA.Bold, .bool s.SaveA.Under, .bool s.SaveA.Turn, .slice s.Tabs.A s.Tabs.n s.Tabs.c, i64 s.Limit, .slice s.Back.A s.Back.n s.Back.c]]) 14 Tryz.func68 rfl Tryz.ntmps68 rfl rfl ?_
 have hs1 := St.takes1 w L_s h_s hd_
 refine WC.sr ?_
 refine WL.bx hs1 rfl (fun b2 _ hs3 => ?_)
 refine WL.al hs3 Tryz.zeroValue33 rfl rfl (fun b4 _ hs5 => ?_)
 refine WL.nil ?_
 refine WC.sr ?_
 refine WL.run tbk 3 hs5 [1] rfl ⟨rfl, trivial⟩ ?_
 refine WL.st tbk hs5 1 rfl rfl (fun _ hs6 => ?_)
 refine WL.nil ?_
 refine WC.sr ?_
 refine WL.run tbk 3 hs6 [1] rfl ⟨rfl, trivial⟩ ?_
 refine WL.st tbk hs6 1 rfl rfl (fun _ hs7 => ?_)
 refine WL.nil ?_
 refine WC.sr ?_
 refine WL.run tbk 3 hs7 [1] rfl ⟨rfl, trivial⟩ ?_
 refine WL.st tbk hs7 1 rfl rfl (fun _ hs8 => ?_)
 refine WL.nil ?_
 refine WC.sr ?_
 refine WL.run tbk 1 hs8 [] rfl trivial ?_
 refine WL.st tbk hs8 1 rfl rfl (fun _ hs9 => ?_)
 refine WL.nil ?_
 refine WC.sr ?_
 refine WL.run tbk 1 hs9 [1] rfl ⟨rfl, trivial⟩ ?_
 refine WL.st tbk hs9 0 rfl rfl (fun _ hs10 => ?_)
 refine WL.nil ?_
 refine WC.ret ?_
 refine retV1 rfl (resV.cellA tbk hs10 0 rfl rfl rfl rfl) ?_
 obtain ⟨L11, L12, L13, L14, hs19, ho15, ho16, ho17, ho18⟩ := ownScrR.open_ (St.perm hs10 (L' := L_s ++ _) (perm_front (A := [_, _]) (List.Perm.refl _))) o_s
 have hs20 := (St.perm (St.perm hs19 (L' := [_] ++ _) (perm_front (A := L11) (perm_front (A := L12) (perm_front (A := L13) (perm_front (A := L14) (perm_front (A := [_]) (List.Perm.refl _))))))) (L' := [_] ++ _) (perm_front (A := [_]) (perm_front (A := L11) (perm_front (A := L12) (perm_front (A := L13) (perm_front (A := L14) (List.Perm.refl _)))))))
 obtain ⟨L22, hs21, ho23⟩ := ownScrR.fold ⟨0, 0, ⟨0, 0, ⟨_, _, _, _⟩⟩, ⟨0, 0, ⟨_, _, _, _⟩⟩, false, 0, 0, false, ⟨0, 0, false, false, false⟩, 0, 0, false, false, 0, 0, ⟨0, 0, false, false, false⟩, ⟨_, _, _, _⟩, 0, ⟨_, _, _, _⟩⟩ (St.perm (St.perm (St.perm (St.perm hs20 (L' := L14 ++ _) (perm_front (A := [_, _]) (perm_front (A := L11) (perm_front (A := L12) (perm_front (A := L13) (List.Perm.refl _)))))) (L' := L13 ++ _) (perm_front (A := L14) (perm_front (A := [_, _]) (perm_front (A := L11) (perm_front (A := L12) (List.Perm.refl _)))))) (L' := L12 ++ _) (perm_front (A := L13) (perm_front (A := L14) (perm_front (A := [_, _]) (perm_front (A := L11) (List.Perm.refl _)))))) (L' := L11 ++ _) (perm_front (A := L12) (perm_front (A := L13) (perm_front (A := L14) (perm_front (A := [_, _]) (List.Perm.refl _)))))) ho15 ho16 ho17 ho18
 have hs24 := (St.perm (St.perm hs21 (L' := [_] ++ _) (perm_front (A := L22) (perm_front (A := [_]) (List.Perm.refl _)))) (L' := [_] ++ _) (perm_front (A := [_]) (perm_front (A := L22) (List.Perm.refl _))))
 refine ⟨⟨s.W, s.H, ⟨s.Main.W, s.Main.H, SlD.of ho15⟩, ⟨s.Alt.W, s.Alt.H, SlD.of ho16⟩, s.OnAlt, s.SaveX, s.SaveY, false, ⟨s.SaveA.Fg, s.SaveA.Bg, s.SaveA.Bold, s.SaveA.Under, s.SaveA.Turn⟩, s.Top, s.Bot, s.NoWrap, s.Hide, s.SaveX, s.SaveY, ⟨s.SaveA.Fg, s.SaveA.Bg, s.SaveA.Bold, s.SaveA.Under, s.SaveA.Turn⟩, SlD.of ho17, s.Limit, SlD.ofN ho18⟩, _, rfl, (St.keep1 (St.perm hs24 (L' := L22 ++ _) (perm_front (A := [_, _]) (List.Perm.refl _)))), ?_, ?_⟩
 · exact (by exact ho23)
 · rfl
end Go.Proofs.YtjmegoiclgancaaGreat
namespace Go.Proofs.YtjmegoiclgancaaGreat
open Go Go.RowKit
set_option linter.unusedVariables false
set_option linter.unusedSimpArgs false
theorem c_spec_ScrEsc (s : ScrR) (b : Int) (w : World) (f_s : okScrR 549755813888 w s) (hsm : smScr 1048576 s.dat) :
    Calls Tryz.prog 20 #[.agg #[i64 s.W, i64 s.H, i64 s.Main.W, i64 s.Main.H, .slice s.Main.Cells.A s.Main.Cells.n s.Main.Cells.c, i64 s.Alt.W, i64 s.Alt.H, .slice s.Alt.Cells.A s.Alt.Cells.n s.Alt.Cells.c, .bool s.OnAlt, i64 s.X, i64 s.Y, .bool s.Wrap, i64 s.A.Fg, i64 s.A.Bg, .bool s.A.Bold, .bool s.A.Under, .bool s.A.Turn, i64 s.Top, i64 s.Bot, .bool s.NoWrap, .bool s.Hide, i64 s.SaveX, i64 s.SaveY, i64 s.SaveA.Fg, i64 s.SaveA.Bg, .bool s.SaveA.Bold, .bool s.SaveA.Under, .bool s.SaveA.Turn, .slice s.Tabs.A s.Tabs.n s.Tabs.c, i64 s.Limit, .slice s.Back.A s.Back.n s.Back.c], i64 b] w fun e w' => ∃ r L1, e = .returned (.agg #[i64 r.W, i64 r.H, i64 r.Main.W, i64 r.Main.H, .slice r.Main.Cells.A r.Main.Cells.n r.Main.Cells.c, i64 r.Alt.W, i64 r.Alt.H, .slice r.Alt.Cells.A r.Alt.Cells.n r.Alt.Cells.c, .bool r.OnAlt, i64 r.X, i64 r.Y, .bool r.Wrap, i64 r.A.Fg, i64 r.A.Bg, .bool r.A.Bold, .bool r.A.Under, .bool r.A.Turn, i64 r.Top, i64 r.Bot, .bool r.NoWrap, .bool r.Hide, i64 r.SaveX, i64 r.SaveY, i64 r.SaveA.Fg, i64 r.SaveA.Bg, .bool r.SaveA.Bold, .bool r.SaveA.Under, .bool r.SaveA.Turn, .slice r.Tabs.A r.Tabs.n r.Tabs.c, i64 r.Limit, .slice r.Back.A r.Back.n r.Back.c]) ∧ St w [] L1 w' ∧ ownScrR r L1 ∧ r.dat = scrEscRes s.dat b := by
 have nb_s_Main_Cells := f_s.Main.Cells_n
 have nl_s_Main_Cells := f_s.Main.Cells.len
 have nb_s_Alt_Cells := f_s.Alt.Cells_n
 have nl_s_Alt_Cells := f_s.Alt.Cells.len
 have nb_s_Tabs := f_s.Tabs_n
 have nl_s_Tabs := f_s.Tabs.len
 have nb_s_Back := f_s.Back_n
 have nl_s_Back := f_s.Back.sl.len
 have hsmB : smScr 549755813888 s.dat := by first | assumption | exact smScr_mono hsm (by decide)
 refine enter (vs := [.agg #[i64 s.W, i64 s.H, i64 s.Main.W, i64 s.Main.H, .slice s.Main.Cells.A s.Main.Cells.n s.Main.Cells.c, i64 s.Alt.W, i64 s.Alt.H, .slice s.Alt.Cells.A s.Alt.Cells.n s.Alt.Cells.c, .bool s.OnAlt, i64 s.X, i64 s.Y, .bool s.Wrap, i64 s.A.Fg, i64 s.A.Bg, .bool s.A.Bold, .bool s.A.Under, .bool s.A.Turn, i64 s.Top, i64 s.Bot, .bool s.NoWrap, .bool s.Hide, i64 s.SaveX, i64 s.SaveY, i64 s.SaveA.Fg, i64 s.SaveA.Bg, .bool s.SaveA.Bold, .bool s.SaveA.Under, .bool s.SaveA.Turn, .slice s.Tabs.A s.Tabs.n s.Tabs.c, i64 s.Limit, .slice s.Back.A s.Back.n s.Back.c], i64 b]) 80 Tryz.func20 rfl Tryz.ntmps20 rfl rfl ?_
 have hs1 := St.init w
 refine WC.sr ?_
 refine WL.bx hs1 rfl (fun b2 _ hs3 => ?_)
 refine WL.al hs3 Tryz.zeroValue33 rfl rfl (fun b4 _ hs5 => ?_)
 refine WL.nil ?_
 refine WC.seq (fun K6 hK6 => ?_)
 refine WC.sr ?_
 refine WL.run tbk 1 hs5 [1] rfl ⟨rfl, trivial⟩ ?_
 refine WL.call rfl rfl rfl (Run.call Tryz.call63 rfl rfl rfl) (c_spec_ScrOk s _ (okScrR.st0 f_s hs5)) ?_
 rintro _ whs7 ⟨rfl, hs7⟩
 replace hs7 := hs5.call0 hs7
 refine ⟨_, rfl, ?_⟩
 refine WL.run tbk 1 hs7 [] rfl trivial ?_
 refine WL.nil ?_
 refine WC.cond rfl (fun h8 => ?_) (fun h8 => ?_)
 ·have qh8 := h8
  try simp only [bf, within_iff, within_not] at qh8
  have hk : scrOk s.dat = false := by have h9 := h8; simpa using h9
  refine WC.sr ?_
  refine WL.val rfl rfl rfl (Run.build rfl rfl rfl rfl (built_33)) ?_
  refine WL.st tbk hs7 0 rfl rfl (fun _ hs9 => ?_)
  refine WL.nil ?_
  refine WC.ret ?_
  refine tkR ?_
  clear hK6
  refine retV1 rfl (resV.cellA tbk hs9 0 rfl rfl rfl rfl) ?_
  obtain ⟨L15, hs14, ho16⟩ := ownScrR.fold ⟨0, 0, ⟨0, 0, ⟨_, _, _, _⟩⟩, ⟨0, 0, ⟨_, _, _, _⟩⟩, false, 0, 0, false, ⟨0, 0, false, false, false⟩, 0, 0, false, false, 0, 0, ⟨0, 0, false, false, false⟩, ⟨_, _, _, _⟩, 0, ⟨_, _, _, _⟩⟩ (St.perm (St.perm (St.perm (St.perm hs9 (L' := ([] : Hp) ++ _) (perm_front (A := [_, _]) (List.Perm.refl _))) (L' := ([] : Hp) ++ _) (perm_front (A := ([] : Hp)) (perm_front (A := [_, _]) (List.Perm.refl _)))) (L' := ([] : Hp) ++ _) (perm_front (A := ([] : Hp)) (perm_front (A := ([] : Hp)) (perm_front (A := [_, _]) (List.Perm.refl _))))) (L' := ([] : Hp) ++ _) (perm_front (A := ([] : Hp)) (perm_front (A := ([] : Hp)) (perm_front (A := ([] : Hp)) (perm_front (A := [_, _]) (List.Perm.refl _)))))) (OwnF.nil _ _) (OwnF.nil _ _) (OwnF.nil _ _) (OwnN.nil _ _ _)
  have hs17 := (St.perm (St.perm hs14 (L' := [_] ++ _) (perm_front (A := L15) (perm_front (A := [_]) (List.Perm.refl _)))) (L' := [_] ++ _) (perm_front (A := [_]) (perm_front (A := L15) (List.Perm.refl _))))
  refine ⟨⟨0, 0, ⟨0, 0, ⟨none, 0, 0, []⟩⟩, ⟨0, 0, ⟨none, 0, 0, []⟩⟩, false, 0, 0, false, ⟨0, 0, false, false, false⟩, 0, 0, false, false, 0, 0, ⟨0, 0, false, false, false⟩, ⟨none, 0, 0, []⟩, 0, ⟨none, 0, 0, []⟩⟩, _, rfl, (St.keep1 (St.perm hs17 (L' := L15 ++ _) (perm_front (A := [_, _]) (List.Perm.refl _)))), ?_, ?_⟩
  · exact (by exact ho16)
  · unfold scrEscRes; rw [hk]; rfl
 ·have qh8 := h8
  try simp only [bf, within_iff, within_not] at qh8
  have hk : scrOk s.dat = true := by have h9 := h8; simpa using h9
  have hf := ScrFine.of hk
  have hds : scrDownRes s.dat = downD s.dat := by unfold scrDownRes; rw [if_pos hk]
  have hus : scrUpRes s.dat = upD s.dat := by unfold scrUpRes; rw [if_pos hk]
  have hok9 := hf.ok
  obtain ⟨hb1, hb2, hb3, hb4, hb5, hb6⟩ := scrOk_bnd hok9
  obtain ⟨hm, hma⟩ := scrOk_main hok9
  simp only [ScrR.dat, GridR.dat, List.length_map] at hb1 hb2 hb3 hb4 hb5 hb6
  refine WC.skip ?_
  refine hK6 _ _ ?_
  refine WC.sr ?_
  refine WL.run tbk 1 hs7 [1] rfl ⟨rfl, trivial⟩ ?_
  refine WL.call rfl rfl rfl (Run.call Tryz.call64 rfl rfl rfl) (c_spec_l09Copy s _ (okScrR.st0 f_s hs7) ?_) ?_
  · first | (first | assumption | rfl | omega) | (first | assumption | omega | (rw [hk]; assumption))
  rintro _ whs18 ⟨r19, L1_20, rfl, hs18, ho21, hd22⟩
  replace hs18 := hs7.callF hs18
  refine ⟨_, rfl, ?_⟩
  replace hs18 := St.back [_, _] hs18
  have hcp := hd22
  refine WL.al hs18 Tryz.zeroValue33 rfl rfl (fun b23 _ hs24 => ?_)
  refine WL.st tbk hs24 0 rfl rfl (fun _ hs25 => ?_)
  refine WL.nil ?_
  refine WC.seq (fun K26 hK26 => ?_)
  refine WC.rr tbk hs25 [] rfl trivial ?_
  refine WC.block ?_
  refine WC.rr tbk hs25 [] rfl trivial ?_
  refine WC.cond rfl (fun h27 => ?_) (fun h27 => ?_)
  ·have qh27 := h27
   try simp only [bf, within_iff, within_not] at qh27
   have e68 : b = 68 := by have h9 := h27; simpa using h9
   refine WC.sr ?_
   refine WL.run tbk 1 hs25 [2] rfl ⟨rfl, trivial⟩ ?_
   refine WL.call rfl rfl rfl (Run.call Tryz.call65 rfl rfl rfl) (c_spec_ScrDown s _ (okScrR.st0 f_s hs25) ?_) ?_
   · first | (first | assumption | rfl | omega) | (first | assumption | omega | (rw [hd22]; assumption))
   rintro _ whs28 ⟨r29, L1_30, rfl, hs28, ho31, hd32⟩
   replace hs28 := hs25.callF hs28
   refine ⟨_, rfl, ?_⟩
   replace hs28 := St.back [_, _, _] hs28
   refine WL.st tbk hs28 1 rfl rfl (fun _ hs33 => ?_)
   refine WL.nil ?_
   refine WC.ret ?_
   refine ibR (tkR ?_)
   clear hK26
   refine retV1 rfl (resV.cellA tbk hs33 1 rfl rfl rfl rfl) ?_
   refine ⟨r29, _, rfl, (St.keep1 (St.perm hs33 (L' := L1_30 ++ _) (perm_front (A := [_, _, _]) (List.Perm.refl _)))), ?_, ?_⟩
   · exact ho31
   · unfold scrEscRes; rw [if_pos hk]; unfold escD; rw [if_pos e68]; exact hd32.trans hds
  ·have qh27 := h27
   try simp only [bf, within_iff, within_not] at qh27
   have e68 : ¬ b = 68 := by have h9 := h27; simpa using h9
   refine WC.rr tbk hs25 [] rfl trivial ?_
   refine WC.cond rfl (fun h34 => ?_) (fun h34 => ?_)
   ·have qh34 := h34
    try simp only [bf, within_iff, within_not] at qh34
    have e77 : b = 77 := by have h9 := h34; simpa using h9
    refine WC.sr ?_
    refine WL.run tbk 1 hs25 [2] rfl ⟨rfl, trivial⟩ ?_
    refine WL.call rfl rfl rfl (Run.call Tryz.call66 rfl rfl rfl) (c_spec_ScrUp s _ (okScrR.st0 f_s hs25) ?_) ?_
    · first | (first | assumption | rfl | omega) | (first | assumption | omega | (rw [hd32]; assumption))
    rintro _ whs35 ⟨r36, L1_37, rfl, hs35, ho38, hd39⟩
    replace hs35 := hs25.callF hs35
    refine ⟨_, rfl, ?_⟩
    replace hs35 := St.back [_, _, _] hs35
    refine WL.st tbk hs35 1 rfl rfl (fun _ hs40 => ?_)
    refine WL.nil ?_
    refine WC.ret ?_
    refine ibR (tkR ?_)
    clear hK26
    refine retV1 rfl (resV.cellA tbk hs40 1 rfl rfl rfl rfl) ?_
    refine ⟨r36, _, rfl, (St.keep1 (St.perm hs40 (L' := L1_37 ++ _) (perm_front (A := [_, _, _]) (List.Perm.refl _)))), ?_, ?_⟩
    · exact ho38
    · unfold scrEscRes; rw [if_pos hk]; unfold escD; rw [if_neg e68, if_pos e77]; exact hd39.trans hus
   ·have qh34 := h34
    try simp only [bf, within_iff, within_not] at qh34
    have e77 : ¬ b = 77 := by have h9 := h34; simpa using h9
    refine WC.rr tbk hs25 [] rfl trivial ?_
    refine WC.cond rfl (fun h41 => ?_) (fun h41 => ?_)
    ·have qh41 := h41
     try simp only [bf, within_iff, within_not] at qh41
     have e69 : b = 69 := by have h9 := h41; simpa using h9
     refine WC.sr ?_
     refine WL.run tbk 1 hs25 [2] rfl ⟨rfl, trivial⟩ ?_
     refine WL.call rfl rfl rfl (Run.call Tryz.call65 rfl rfl rfl) (c_spec_ScrDown s _ (okScrR.st0 f_s hs25) ?_) ?_
     · first | (first | assumption | rfl | omega) | (first | assumption | omega | (rw [hd39]; assumption))
     rintro _ whs42 ⟨r43, L1_44, rfl, hs42, ho45, hd46⟩
     replace hs42 := hs25.callF hs42
     refine ⟨_, rfl, ?_⟩
     replace hs42 := St.back [_, _, _] hs42
     have hdn := hd46
     refine WL.st tbk hs42 0 rfl rfl (fun _ hs47 => ?_)
     refine WL.nil ?_
     refine WC.region ?_
     refine WL.run tbk 1 hs47 [] rfl trivial ?_
     refine WL.st tbk hs47 0 rfl rfl (fun _ hs48 => ?_)
     refine WL.nil ?_
     refine hK26 _ _ ?_
     refine WC.sr ?_
     refine WL.run tbk 1 hs48 [0] rfl ⟨rfl, trivial⟩ ?_
     refine WL.st tbk hs48 1 rfl rfl (fun _ hs49 => ?_)
     refine WL.nil ?_
     refine WC.ret ?_
     refine retV1 rfl (resV.cellA tbk hs49 1 rfl rfl rfl rfl) ?_
     obtain ⟨L50, L51, L52, L53, hs58, ho54, ho55, ho56, ho57⟩ := ownScrR.open_ (St.perm hs49 (L' := L1_44 ++ _) (perm_front (A := [_, _, _]) (List.Perm.refl _))) ho45
     have hs59 := (St.perm (St.perm (St.perm hs58 (L' := [_] ++ _) (perm_front (A := L50) (perm_front (A := L51) (perm_front (A := L52) (perm_front (A := L53) (perm_front (A := [_, _]) (List.Perm.refl _))))))) (L' := [_] ++ _) (perm_front (A := [_]) (perm_front (A := L50) (perm_front (A := L51) (perm_front (A := L52) (perm_front (A := L53) (perm_front (A := [_]) (List.Perm.refl _)))))))) (L' := [_] ++ _) (perm_front (A := [_, _]) (perm_front (A := L50) (perm_front (A := L51) (perm_front (A := L52) (perm_front (A := L53) (List.Perm.refl _)))))))
     obtain ⟨L61, hs60, ho62⟩ := ownScrR.fold ⟨0, 0, ⟨0, 0, ⟨_, _, _, _⟩⟩, ⟨0, 0, ⟨_, _, _, _⟩⟩, false, 0, 0, false, ⟨0, 0, false, false, false⟩, 0, 0, false, false, 0, 0, ⟨0, 0, false, false, false⟩, ⟨_, _, _, _⟩, 0, ⟨_, _, _, _⟩⟩ (St.perm (St.perm (St.perm (St.perm hs59 (L' := L53 ++ _) (perm_front (A := [_, _, _]) (perm_front (A := L50) (perm_front (A := L51) (perm_front (A := L52) (List.Perm.refl _)))))) (L' := L52 ++ _) (perm_front (A := L53) (perm_front (A := [_, _, _]) (perm_front (A := L50) (perm_front (A := L51) (List.Perm.refl _)))))) (L' := L51 ++ _) (perm_front (A := L52) (perm_front (A := L53) (perm_front (A := [_, _, _]) (perm_front (A := L50) (List.Perm.refl _)))))) (L' := L50 ++ _) (perm_front (A := L51) (perm_front (A := L52) (perm_front (A := L53) (perm_front (A := [_, _, _]) (List.Perm.refl _)))))) ho54 ho55 ho56 ho57
     have hs63 := (St.perm (St.perm (St.perm hs60 (L' := [_] ++ _) (perm_front (A := L61) (perm_front (A := [_, _]) (List.Perm.refl _)))) (L' := [_] ++ _) (perm_front (A := [_]) (perm_front (A := L61) (perm_front (A := [_]) (List.Perm.refl _))))) (L' := [_] ++ _) (perm_front (A := [_, _]) (perm_front (A := L61) (List.Perm.refl _))))
     refine ⟨⟨r43.W, r43.H, ⟨r43.Main.W, r43.Main.H, SlD.of ho54⟩, ⟨r43.Alt.W, r43.Alt.H, SlD.of ho55⟩, r43.OnAlt, (0), r43.Y, r43.Wrap, ⟨r43.A.Fg, r43.A.Bg, r43.A.Bold, r43.A.Under, r43.A.Turn⟩, r43.Top, r43.Bot, r43.NoWrap, r43.Hide, r43.SaveX, r43.SaveY, ⟨r43.SaveA.Fg, r43.SaveA.Bg, r43.SaveA.Bold, r43.SaveA.Under, r43.SaveA.Turn⟩, SlD.of ho56, r43.Limit, SlD.ofN ho57⟩, _, rfl, (St.keep1 (St.perm hs63 (L' := L61 ++ _) (perm_front (A := [_, _, _]) (List.Perm.refl _)))), ?_, ?_⟩
     · exact (by exact ho62)
     · unfold scrEscRes; rw [if_pos hk]; unfold escD; rw [if_neg e68, if_neg e77, if_pos e69]; show _ = ({ downD s.dat with X := 0 } : ScrD); rw [← hds, ← hdn]; rfl
    ·have qh41 := h41
     try simp only [bf, within_iff, within_not] at qh41
     have e69 : ¬ b = 69 := by have h9 := h41; simpa using h9
     refine WC.rr tbk hs25 [] rfl trivial ?_
     refine WC.cond rfl (fun h64 => ?_) (fun h64 => ?_)
     ·have qh64 := h64
      try simp only [bf, within_iff, within_not] at qh64
      have e55 : b = 55 := by have h9 := h64; simpa using h9
      refine WC.region ?_
      refine WL.run tbk 1 hs25 [0] rfl ⟨rfl, trivial⟩ ?_
      refine WL.call rfl rfl rfl (Run.call Tryz.call67 rfl rfl rfl) (c_spec_l10Save r19 _ _ ho21 (fun p_ hp_ => (hs25.own p_ (List.mem_append_right [_, _, _] (List.mem_append_left _ hp_))).1) (St.nodupL (St.perm hs25 (L' := L1_20 ++ _) (perm_front (A := [_, _, _]) (List.Perm.refl _))))) ?_
      rintro _ whs65 ⟨r66, L1_67, rfl, hs65, ho68, hd69⟩
      replace hs65 := St.lend (St.perm hs25 (L' := L1_20 ++ _) (perm_front (A := [_, _, _]) (List.Perm.refl _))) hs65
      refine ⟨_, rfl, ?_⟩
      replace hs65 := St.back [_, _, _] hs65
      refine WL.st tbk hs65 0 rfl rfl (fun _ hs70 => ?_)
      refine WL.nil ?_
      refine hK26 _ _ ?_
      refine WC.sr ?_
      refine WL.run tbk 1 hs70 [0] rfl ⟨rfl, trivial⟩ ?_
      refine WL.st tbk hs70 1 rfl rfl (fun _ hs71 => ?_)
      refine WL.nil ?_
      refine WC.ret ?_
      refine retV1 rfl (resV.cellA tbk hs71 1 rfl rfl rfl rfl) ?_
      refine ⟨r66, _, rfl, (St.keep1 (St.perm hs71 (L' := L1_67 ++ _) (perm_front (A := [_, _, _]) (List.Perm.refl _)))), ?_, ?_⟩
      · exact ho68
      · unfold scrEscRes; rw [if_pos hk]; unfold escD; rw [if_neg e68, if_neg e77, if_neg e69, if_pos e55]; exact hd69.trans (by rw [hcp])
     ·have qh64 := h64
      try simp only [bf, within_iff, within_not] at qh64
      have e55 : ¬ b = 55 := by have h9 := h64; simpa using h9
      refine WC.rr tbk hs25 [] rfl trivial ?_
      refine WC.cond rfl (fun h72 => ?_) (fun h72 => ?_)
      ·have qh72 := h72
       try simp only [bf, within_iff, within_not] at qh72
       have e56 : b = 56 := by have h9 := h72; simpa using h9
       refine WC.region ?_
       refine WL.run tbk 1 hs25 [0] rfl ⟨rfl, trivial⟩ ?_
       refine WL.call rfl rfl rfl (Run.call Tryz.call68 rfl rfl rfl) (c_spec_l10Back r19 _ _ ho21 (fun p_ hp_ => (hs25.own p_ (List.mem_append_right [_, _, _] (List.mem_append_left _ hp_))).1) (St.nodupL (St.perm hs25 (L' := L1_20 ++ _) (perm_front (A := [_, _, _]) (List.Perm.refl _))))) ?_
       rintro _ whs73 ⟨r74, L1_75, rfl, hs73, ho76, hd77⟩
       replace hs73 := St.lend (St.perm hs25 (L' := L1_20 ++ _) (perm_front (A := [_, _, _]) (List.Perm.refl _))) hs73
       refine ⟨_, rfl, ?_⟩
       replace hs73 := St.back [_, _, _] hs73
       refine WL.st tbk hs73 0 rfl rfl (fun _ hs78 => ?_)
       refine WL.nil ?_
       refine hK26 _ _ ?_
       refine WC.sr ?_
       refine WL.run tbk 1 hs78 [0] rfl ⟨rfl, trivial⟩ ?_
       refine WL.st tbk hs78 1 rfl rfl (fun _ hs79 => ?_)
       refine WL.nil ?_
       refine WC.ret ?_
       refine retV1 rfl (resV.cellA tbk hs79 1 rfl rfl rfl rfl) ?_
       refine ⟨r74, _, rfl, (St.keep1 (St.perm hs79 (L' := L1_75 ++ _) (perm_front (A := [_, _, _]) (List.Perm.refl _)))), ?_, ?_⟩
       · exact ho76
       · unfold scrEscRes; rw [if_pos hk]; unfold escD; rw [if_neg e68, if_neg e77, if_neg e69, if_neg e55, if_pos e56]; exact hd77.trans (by rw [hcp])
      ·have qh72 := h72
       try simp only [bf, within_iff, within_not] at qh72
       have e56 : ¬ b = 56 := by have h9 := h72; simpa using h9
       refine WC.rr tbk hs25 [] rfl trivial ?_
       refine WC.cond rfl (fun h80 => ?_) (fun h80 => ?_)
       ·have qh80 := h80
        try simp only [bf, within_iff, within_not] at qh80
        have e72 : b = 72 := by have h9 := h80; simpa using h9
        refine WC.sr ?_
        refine WL.buildF (F := encI) hs25 ([]) Tryz.runUnderlying23 Tryz.sizeOf3 Tryz.zeroValue3 rfl rfl rfl rfl rfl rfl rfl rfl rfl rfl rfl rfl (fun A84 c85 L81 whs82 hs82 ho83 => ?_)
        replace hs82 := St.back [_, _, _] hs82
        refine WL.run tbk 1 hs82 [] rfl trivial ?_
        refine WL.nil ?_
        refine WC.seq (fun K86 hK86 => ?_)
        refine WC.rr tbk hs82 [] rfl trivial ?_
        refine WC.block ?_
        have hM91 := (St.grp1 (L1 := L81) [] (St.perm (St.perm (St.perm (St.perm (St.perm hs82 (L' := L1_20 ++ _) (perm_front (A := [_, _, _]) (perm_front (A := L81) (List.Perm.refl _)))) (L' := [_] ++ _) (perm_front (A := L1_20) (perm_front (A := [_, _]) (List.Perm.refl _)))) (L' := [_] ++ _) (perm_front (A := [_]) (perm_front (A := L1_20) (perm_front (A := [_]) (List.Perm.refl _))))) (L' := [_] ++ _) (perm_front (A := [_, _]) (perm_front (A := L1_20) (List.Perm.refl _)))) (L' := L81 ++ _) (perm_front (A := [_, _, _]) (perm_front (A := L1_20) (List.Perm.refl _)))))
        refine WC.loopV (α := Hp) [(2, _), (4, _), (5, _), (12, _), (16, _), (17, _), (21, _), (25, _), (30, _), (34, _), (38, _)] ⟨rfl, rfl, rfl, rfl, rfl, rfl, rfl, rfl, rfl, rfl, rfl, trivial⟩ (fun a_ => a_) _ hM91 (fun k_ (a_ : Hp) f => ∃ (i : Nat) (zs : List Int) (A87 : Option Addr) (c88 : Nat) (L89 : Hp), k_ = s.W.toNat - i ∧ a_ = L89 ∧ ((i : Int) ≤ s.W) ∧ (zs = tabTo s.dat i) ∧ OwnF encI 3 (.slice A87 (zs).length c88) (zs) L89 ∧ Sub [(6, .slice A87 (zs).length c88), (7, .int .i64 i)] f) (((fun (i : Nat) (zs : List Int) => s.W.toNat - i) (0) ([]))) ?_ ?_
        ·refine ⟨0, [], A84, c85, L81, rfl, rfl, ?_, ?_, ho83, ⟨rfl, rfl, trivial⟩⟩
         · omega
         · rfl
        ·rintro _ L89 f w ⟨i, zs, A87, c88, _, rfl, rfl, p0, p1, ho90, hG⟩ hF hs92
         refine WC.sub _ (hG.app hF) ?_
         clear hG hF
         replace hs92 := St.ungrp1 [] hs92
         have hs93 := (St.perm (St.perm (St.perm hs92 (L' := [_] ++ _) (perm_front (A := L89) (perm_front (A := [_, _]) (List.Perm.refl _)))) (L' := [_] ++ _) (perm_front (A := [_]) (perm_front (A := L89) (perm_front (A := [_]) (List.Perm.refl _))))) (L' := [_] ++ _) (perm_front (A := [_, _]) (perm_front (A := L89) (List.Perm.refl _))))
         have hzl : zs.length ≤ i := by rw [p1]; exact tabTo_le
         refine WC.seq (fun K94 hK94 => ?_)
         refine WC.rr tbk hs93 [2] rfl ⟨rfl, trivial⟩ ?_
         refine WC.cond rfl (fun h95 => ?_) (fun h95 => ?_)
         ·have qh95 := h95
          try simp only [bf, within_iff, within_not] at qh95
          refine WC.skip ?_
          refine hK94 _ _ ?_
          refine WC.seq (fun K96 hK96 => ?_)
          refine WC.block ?_
          refine WC.sr ?_
          refine WL.run tbk 5 hs93 [2] rfl ⟨rfl, trivial⟩ ?_
          apply WL.gO 4 Acts.nil hs93 rfl
          ·intro g97 J98
           have qg97 := g97
           try simp only [bf, within_iff, within_not] at qg97
           refine WL.runA tbk 3 (Acts.nil.cons (j := 4) rfl g97) hs93 [2] rfl ⟨rfl, trivial⟩ ?_
           refine WL.call (wantF rfl g97) rfl rfl (Run.call Tryz.call69 rfl rfl rfl) (c_spec_l02HasInt _ _ _ _ _ _ (SlF.st0 f_s.Tabs hs93) ?_) ?_
           · first | (first | assumption | rfl | omega) | (first | assumption | omega | (rw [hd77]; assumption))
           rintro _ whs99 ⟨rfl, hs99⟩
           replace hs99 := hs93.call0 hs99
           refine ⟨_, rfl, ?_⟩
           exact WL.eO 4 Acts.nil J98 hs99 g97 rfl rfl
          ·intro _ hs100
           refine WL.nil ?_
           refine WC.cond rfl (fun h101 => ?_) (fun h101 => ?_)
           ·have qh101 := h101
            try simp only [bf, within_iff, within_not] at qh101
            have hin : (i : Int) = s.dat.X ∨ s.dat.Tabs.contains (i : Int) = true := by show (i : Int) = s.X ∨ s.Tabs.xs.contains (i : Int) = true; have h9 := h101; simpa using h9
            refine WC.region ?_
            refine WL.run tbk 2 hs100 [] rfl trivial ?_
            refine WL.buildSlice hs100 Tryz.runUnderlying23 Tryz.sizeOf3 Tryz.zeroValue3 rfl rfl rfl rfl rfl rfl rfl rfl rfl rfl (fun b102 whs103 hs103 => ?_)
            refine WL.appendG (St.perm hs103 (L' := L89 ++ _) (perm_front (A := [_, _, _, _]) (List.Perm.refl _))) ho90 (srcI1 Tryz.underlying23 (hs103.own _ (nthL_mem (i := 0) rfl)).1) Tryz.underlying23 info_3 rfl rfl rfl rfl rfl rfl rfl rfl rfl rfl ?_ (fun A107 c108 L104 whs105 hs105 ho106 => ?_)
            · simp; omega
            replace hs105 := St.back [_, _, _, _] hs105
            refine WL.run tbk 1 hs105 [] rfl trivial ?_
            refine WL.nil ?_
            refine hK96 _ _ ?_
            refine WC.region ?_
            refine WL.run tbk 3 hs105 [] rfl ⟨by omega, trivial⟩ ?_
            refine WL.nil ?_
            refine tkN ?_
            replace hs105 := St.drop hs105 (List.sublist_append_right [_] _)
            have hF109 := (St.grp1 (L1 := L104) [] (St.perm (St.perm (St.perm (St.perm (St.perm hs105 (L' := L1_20 ++ _) (perm_front (A := [_, _, _]) (perm_front (A := L104) (List.Perm.refl _)))) (L' := [_] ++ _) (perm_front (A := L1_20) (perm_front (A := [_, _]) (List.Perm.refl _)))) (L' := [_] ++ _) (perm_front (A := [_]) (perm_front (A := L1_20) (perm_front (A := [_]) (List.Perm.refl _))))) (L' := [_] ++ _) (perm_front (A := [_, _]) (perm_front (A := L1_20) (List.Perm.refl _)))) (L' := L104 ++ _) (perm_front (A := [_, _, _]) (perm_front (A := L1_20) (List.Perm.refl _)))))
            refine ⟨⟨rfl, rfl, rfl, rfl, rfl, rfl, rfl, rfl, rfl, rfl, rfl, trivial⟩, _, hF109, _, ?_, i + 1, _, A107, c108, L104, rfl, rfl, ?_, ?_, ho106, ⟨rfl, rfl, trivial⟩⟩
            · omega
            · omega
            · rw [p1]; first | exact (tabTo_in hin).symm | exact (tabTo_out hout).symm
           ·have qh101 := h101
            try simp only [bf, within_iff, within_not] at qh101
            have hout : ¬ ((i : Int) = s.dat.X ∨ s.dat.Tabs.contains (i : Int) = true) := by show ¬ ((i : Int) = s.X ∨ s.Tabs.xs.contains (i : Int) = true); have h9 := h101; simpa using h9
            refine WC.skip ?_
            refine hK96 _ _ ?_
            refine WC.region ?_
            refine WL.run tbk 3 hs100 [] rfl ⟨by omega, trivial⟩ ?_
            refine WL.nil ?_
            refine tkN ?_
            have hF110 := (St.grp1 (L1 := L89) [] (St.perm (St.perm (St.perm (St.perm (St.perm hs100 (L' := L1_20 ++ _) (perm_front (A := [_, _, _]) (perm_front (A := L89) (List.Perm.refl _)))) (L' := [_] ++ _) (perm_front (A := L1_20) (perm_front (A := [_, _]) (List.Perm.refl _)))) (L' := [_] ++ _) (perm_front (A := [_]) (perm_front (A := L1_20) (perm_front (A := [_]) (List.Perm.refl _))))) (L' := [_] ++ _) (perm_front (A := [_, _]) (perm_front (A := L1_20) (List.Perm.refl _)))) (L' := L89 ++ _) (perm_front (A := [_, _, _]) (perm_front (A := L1_20) (List.Perm.refl _)))))
            refine ⟨⟨rfl, rfl, rfl, rfl, rfl, rfl, rfl, rfl, rfl, rfl, rfl, trivial⟩, _, hF110, _, ?_, i + 1, _, A87, c88, L89, rfl, rfl, ?_, ?_, ho90, ⟨rfl, rfl, trivial⟩⟩
            · omega
            · omega
            · rw [p1]; first | exact (tabTo_in hin).symm | exact (tabTo_out hout).symm
         ·have qh95 := h95
          try simp only [bf, within_iff, within_not] at qh95
          refine WC.exit ?_
          refine hK86 _ _ ?_
          refine WC.region ?_
          refine WL.run tbk 2 hs93 [] rfl trivial ?_
          refine WL.st tbk hs93 0 rfl rfl (fun _ hs111 => ?_)
          refine WL.nil ?_
          refine hK26 _ _ ?_
          refine WC.sr ?_
          refine WL.run tbk 1 hs111 [0] rfl ⟨rfl, trivial⟩ ?_
          refine WL.st tbk hs111 1 rfl rfl (fun _ hs112 => ?_)
          refine WL.nil ?_
          refine WC.ret ?_
          refine retV1 rfl (resV.cellA tbk hs112 1 rfl rfl rfl rfl) ?_
          obtain ⟨L113, L114, L115, L116, hs121, ho117, ho118, ho119, ho120⟩ := ownScrR.open_ (St.perm hs112 (L' := L1_20 ++ _) (perm_front (A := [_, _, _]) (perm_front (A := L89) (List.Perm.refl _)))) ho21
          have hs122 := (St.perm (St.perm (St.perm hs121 (L' := [_] ++ _) (perm_front (A := L113) (perm_front (A := L114) (perm_front (A := L115) (perm_front (A := L116) (perm_front (A := [_, _]) (List.Perm.refl _))))))) (L' := [_] ++ _) (perm_front (A := [_]) (perm_front (A := L113) (perm_front (A := L114) (perm_front (A := L115) (perm_front (A := L116) (perm_front (A := [_]) (List.Perm.refl _)))))))) (L' := [_] ++ _) (perm_front (A := [_, _]) (perm_front (A := L113) (perm_front (A := L114) (perm_front (A := L115) (perm_front (A := L116) (List.Perm.refl _)))))))
          obtain ⟨L124, hs123, ho125⟩ := ownScrR.fold ⟨0, 0, ⟨0, 0, ⟨_, _, _, _⟩⟩, ⟨0, 0, ⟨_, _, _, _⟩⟩, false, 0, 0, false, ⟨0, 0, false, false, false⟩, 0, 0, false, false, 0, 0, ⟨0, 0, false, false, false⟩, ⟨_, _, _, _⟩, 0, ⟨_, _, _, _⟩⟩ (St.perm (St.perm (St.perm (St.perm hs122 (L' := L116 ++ _) (perm_front (A := [_, _, _]) (perm_front (A := L113) (perm_front (A := L114) (perm_front (A := L115) (List.Perm.refl _)))))) (L' := L89 ++ _) (perm_front (A := L116) (perm_front (A := [_, _, _]) (perm_front (A := L113) (perm_front (A := L114) (perm_front (A := L115) (List.Perm.refl _))))))) (L' := L114 ++ _) (perm_front (A := L89) (perm_front (A := L116) (perm_front (A := [_, _, _]) (perm_front (A := L113) (List.Perm.refl _)))))) (L' := L113 ++ _) (perm_front (A := L114) (perm_front (A := L89) (perm_front (A := L116) (perm_front (A := [_, _, _]) (List.Perm.refl _)))))) ho117 ho118 ho90 ho120
          have hs126 := (St.perm (St.perm (St.perm hs123 (L' := [_] ++ _) (perm_front (A := L124) (perm_front (A := [_, _]) (List.Perm.refl _)))) (L' := [_] ++ _) (perm_front (A := [_]) (perm_front (A := L124) (perm_front (A := [_]) (List.Perm.refl _))))) (L' := [_] ++ _) (perm_front (A := [_, _]) (perm_front (A := L124) (List.Perm.refl _))))
          refine ⟨⟨r19.W, r19.H, ⟨r19.Main.W, r19.Main.H, SlD.of ho117⟩, ⟨r19.Alt.W, r19.Alt.H, SlD.of ho118⟩, r19.OnAlt, r19.X, r19.Y, r19.Wrap, ⟨r19.A.Fg, r19.A.Bg, r19.A.Bold, r19.A.Under, r19.A.Turn⟩, r19.Top, r19.Bot, r19.NoWrap, r19.Hide, r19.SaveX, r19.SaveY, ⟨r19.SaveA.Fg, r19.SaveA.Bg, r19.SaveA.Bold, r19.SaveA.Under, r19.SaveA.Turn⟩, SlD.of ho90, r19.Limit, SlD.ofN ho120⟩, _, rfl, (St.keep1 (St.perm hs126 (L' := L124 ++ _) (perm_front (A := [_, _, _]) (List.Perm.refl _)))), ?_, ?_⟩
          · exact (by exact ho125)
          · unfold scrEscRes; rw [if_pos hk]; unfold escD; rw [if_neg e68, if_neg e77, if_neg e69, if_neg e55, if_neg e56, if_pos e72]; refine Eq.trans ?_ (show ({ s.dat with Tabs := zs } : ScrD) = tabD s.dat from by rw [p1, show i = s.dat.W.toNat by (show i = s.W.toNat; omega)]; rfl); rw [← hcp]; rfl
       ·have qh80 := h80
        try simp only [bf, within_iff, within_not] at qh80
        have e72 : ¬ b = 72 := by have h9 := h80; simpa using h9
        refine WC.rr tbk hs25 [] rfl trivial ?_
        refine WC.cond rfl (fun h127 => ?_) (fun h127 => ?_)
        ·have qh127 := h127
         try simp only [bf, within_iff, within_not] at qh127
         have e99 : b = 99 := by have h9 := h127; simpa using h9
         refine WC.sr ?_
         refine WL.run tbk 6 hs25 [2, 2, 2] rfl ⟨rfl, rfl, rfl, trivial⟩ ?_
         refine WL.call rfl rfl rfl (Run.call Tryz.call70 rfl rfl rfl) (c_spec_ScrNew _ _ _ _) ?_
         rintro _ whs128 ⟨r0_129, L0_130, rfl, hs128, ho131, hd0_132⟩
         replace hs128 := hs25.callF hs128
         refine ⟨_, rfl, ?_⟩
         replace hs128 := St.back [_, _, _] hs128
         refine WL.run tbk 3 hs128 [] rfl trivial ?_
         refine WL.al hs128 Tryz.zeroValue33 rfl rfl (fun b133 _ hs134 => ?_)
         refine WL.st tbk hs134 0 rfl rfl (fun _ hs135 => ?_)
         refine WL.run tbk 1 hs135 [] rfl trivial ?_
         refine WL.nil ?_
         refine WC.sr ?_
         refine WL.run tbk 3 hs135 [1] rfl ⟨rfl, trivial⟩ ?_
         refine WL.st tbk hs135 0 rfl rfl (fun _ hs136 => ?_)
         refine WL.nil ?_
         refine WC.sr ?_
         refine WL.run tbk 1 hs136 [0] rfl ⟨rfl, trivial⟩ ?_
         refine WL.st tbk hs136 2 rfl rfl (fun _ hs137 => ?_)
         refine WL.nil ?_
         refine WC.ret ?_
         refine ibR (tkR ?_)
         clear hK26
         refine retV1 rfl (resV.cellA tbk hs137 2 rfl rfl rfl rfl) ?_
         obtain ⟨L138, L139, L140, L141, hs146, ho142, ho143, ho144, ho145⟩ := ownScrR.open_ (St.perm hs137 (L' := L0_130 ++ _) (perm_front (A := [_, _, _, _]) (List.Perm.refl _))) ho131
         have hs147 := (St.perm (St.perm (St.perm (St.perm hs146 (L' := [_] ++ _) (perm_front (A := L138) (perm_front (A := L139) (perm_front (A := L140) (perm_front (A := L141) (perm_front (A := [_, _, _]) (List.Perm.refl _))))))) (L' := [_] ++ _) (perm_front (A := [_]) (perm_front (A := L138) (perm_front (A := L139) (perm_front (A := L140) (perm_front (A := L141) (perm_front (A := [_, _]) (List.Perm.refl _)))))))) (L' := [_] ++ _) (perm_front (A := [_, _]) (perm_front (A := L138) (perm_front (A := L139) (perm_front (A := L140) (perm_front (A := L141) (perm_front (A := [_]) (List.Perm.refl _)))))))) (L' := [_] ++ _) (perm_front (A := [_, _, _]) (perm_front (A := L138) (perm_front (A := L139) (perm_front (A := L140) (perm_front (A := L141) (List.Perm.refl _)))))))
         obtain ⟨L148, L149, L150, L151, hs156, ho152, ho153, ho154, ho155⟩ := ownScrR.open_ (St.perm hs147 (L' := L1_20 ++ _) (perm_front (A := [_, _, _, _]) (perm_front (A := L138) (perm_front (A := L139) (perm_front (A := L140) (perm_front (A := L141) (List.Perm.refl _))))))) ho21
         have hs157 := (St.perm (St.perm (St.perm (St.perm hs156 (L' := [_] ++ _) (perm_front (A := L148) (perm_front (A := L149) (perm_front (A := L150) (perm_front (A := L151) (perm_front (A := [_, _, _]) (List.Perm.refl _))))))) (L' := [_] ++ _) (perm_front (A := [_]) (perm_front (A := L148) (perm_front (A := L149) (perm_front (A := L150) (perm_front (A := L151) (perm_front (A := [_, _]) (List.Perm.refl _)))))))) (L' := [_] ++ _) (perm_front (A := [_, _]) (perm_front (A := L148) (perm_front (A := L149) (perm_front (A := L150) (perm_front (A := L151) (perm_front (A := [_]) (List.Perm.refl _)))))))) (L' := [_] ++ _) (perm_front (A := [_, _, _]) (perm_front (A := L148) (perm_front (A := L149) (perm_front (A := L150) (perm_front (A := L151) (List.Perm.refl _)))))))
         obtain ⟨L159, hs158, ho160⟩ := ownScrR.fold ⟨0, 0, ⟨0, 0, ⟨_, _, _, _⟩⟩, ⟨0, 0, ⟨_, _, _, _⟩⟩, false, 0, 0, false, ⟨0, 0, false, false, false⟩, 0, 0, false, false, 0, 0, ⟨0, 0, false, false, false⟩, ⟨_, _, _, _⟩, 0, ⟨_, _, _, _⟩⟩ (St.perm (St.perm (St.perm (St.perm hs157 (L' := L151 ++ _) (perm_front (A := [_, _, _, _]) (perm_front (A := L148) (perm_front (A := L149) (perm_front (A := L150) (List.Perm.refl _)))))) (L' := L140 ++ _) (perm_front (A := L151) (perm_front (A := [_, _, _, _]) (perm_front (A := L148) (perm_front (A := L149) (perm_front (A := L150) (perm_front (A := L138) (perm_front (A := L139) (List.Perm.refl _))))))))) (L' := L139 ++ _) (perm_front (A := L140) (perm_front (A := L151) (perm_front (A := [_, _, _, _]) (perm_front (A := L148) (perm_front (A := L149) (perm_front (A := L150) (perm_front (A := L138) (List.Perm.refl _))))))))) (L' := L138 ++ _) (perm_front (A := L139) (perm_front (A := L140) (perm_front (A := L151) (perm_front (A := [_, _, _, _]) (perm_front (A := L148) (perm_front (A := L149) (perm_front (A := L150) (List.Perm.refl _))))))))) ho142 ho143 ho144 ho155
         have hs161 := (St.perm (St.perm (St.perm (St.perm hs158 (L' := [_] ++ _) (perm_front (A := L159) (perm_front (A := [_, _, _]) (List.Perm.refl _)))) (L' := [_] ++ _) (perm_front (A := [_]) (perm_front (A := L159) (perm_front (A := [_, _]) (List.Perm.refl _))))) (L' := [_] ++ _) (perm_front (A := [_, _]) (perm_front (A := L159) (perm_front (A := [_]) (List.Perm.refl _))))) (L' := [_] ++ _) (perm_front (A := [_, _, _]) (perm_front (A := L159) (List.Perm.refl _))))
         refine ⟨⟨r0_129.W, r0_129.H, ⟨r0_129.Main.W, r0_129.Main.H, SlD.of ho142⟩, ⟨r0_129.Alt.W, r0_129.Alt.H, SlD.of ho143⟩, r0_129.OnAlt, r0_129.X, r0_129.Y, r0_129.Wrap, ⟨r0_129.A.Fg, r0_129.A.Bg, r0_129.A.Bold, r0_129.A.Under, r0_129.A.Turn⟩, r0_129.Top, r0_129.Bot, r0_129.NoWrap, r0_129.Hide, r0_129.SaveX, r0_129.SaveY, ⟨r0_129.SaveA.Fg, r0_129.SaveA.Bg, r0_129.SaveA.Bold, r0_129.SaveA.Under, r0_129.SaveA.Turn⟩, SlD.of ho144, r0_129.Limit, SlD.ofN ho155⟩, _, rfl, (St.keep1 (St.perm hs161 (L' := L159 ++ _) (perm_front (A := [_, _, _, _]) (List.Perm.refl _)))), ?_, ?_⟩
         · exact (by exact ho160)
         · unfold scrEscRes; rw [if_pos hk]; unfold escD; rw [if_neg e68, if_neg e77, if_neg e69, if_neg e55, if_neg e56, if_neg e72, if_pos e99]; have hm9 : scrRes s.W s.H s.Limit = scrNew s.W s.H s.Limit := by { unfold scrRes scrMay; rw [if_pos]; rw [Bool.and_eq_true, within_iff]; exact ⟨hf.size, hf.lim.1⟩ }; refine Eq.trans ?_ (show ({ scrRes s.W s.H s.Limit with Back := s.dat.Back } : ScrD) = resetD s.dat from by rw [hm9]; rfl); rw [← hd0_132, ← hcp]; rfl
        ·have qh127 := h127
         try simp only [bf, within_iff, within_not] at qh127
         have e99 : ¬ b = 99 := by have h9 := h127; simpa using h9
         refine WC.skip ?_
         refine hK26 _ _ ?_
         refine WC.sr ?_
         refine WL.run tbk 1 hs25 [0] rfl ⟨rfl, trivial⟩ ?_
         refine WL.st tbk hs25 1 rfl rfl (fun _ hs162 => ?_)
         refine WL.nil ?_
         refine WC.ret ?_
         refine retV1 rfl (resV.cellA tbk hs162 1 rfl rfl rfl rfl) ?_
         refine ⟨r19, _, rfl, (St.keep1 (St.perm hs162 (L' := L1_20 ++ _) (perm_front (A := [_, _, _]) (List.Perm.refl _)))), ?_, ?_⟩
         · exact ho21
         · unfold scrEscRes; rw [if_pos hk]; unfold escD; rw [if_neg e68, if_neg e77, if_neg e69, if_neg e55, if_neg e56, if_neg e72, if_neg e99]; exact hcp
end Go.Proofs.YtjmegoiclgancaaGreat
