/- Walks of Go functions, printed by a program (wip/gen). -/
import Derived.Test.YtlmcekfdlgkffaaGreatX1
namespace Go.Proofs.YtlmcekfdlgkffaaGreat
open Go Go.RowKit
set_option linter.unusedVariables false
set_option linter.unusedSimpArgs false
theorem c_spec_GridPaste (g : GridR) (h : GridR) (x : Int) (y : Int) (w : World) (f_g : okGridR 549755813888 w g) (f_h : okGridR 549755813888 w h) (hg : gridOk g.dat = true) (hh : gridOk h.dat = true) (hx : -100000 ≤ x ∧ x ≤ 100000) (hy : -100000 ≤ y ∧ y ≤ 100000) :
    Calls Tryz.prog 132 #[.agg #[i64 g.W, i64 g.H, .slice g.Cells.A g.Cells.n g.Cells.c], .agg #[i64 h.W, i64 h.H, .slice h.Cells.A h.Cells.n h.Cells.c], i64 x, i64 y] w fun e w' => ∃ r L1, e = .returned (.agg #[i64 r.W, i64 r.H, .slice r.Cells.A r.Cells.n r.Cells.c]) ∧ St w [] L1 w' ∧ ownGridR r L1 ∧ r.dat = gPaste g.dat h.dat x y := by
 have nb_g_Cells := f_g.Cells_n
 have nl_g_Cells := f_g.Cells.len
 have nb_h_Cells := f_h.Cells_n
 have nl_h_Cells := f_h.Cells.len
 have hgb : (1 ≤ g.W ∧ g.W ≤ 120) ∧ (1 ≤ g.H ∧ g.H ≤ 120) ∧ 1 ≤ g.W * g.H ∧ g.W * g.H ≤ 4000 := gridOk_bnd hg
 have hhb : (1 ≤ h.W ∧ h.W ≤ 120) ∧ (1 ≤ h.H ∧ h.H ≤ 120) ∧ 1 ≤ h.W * h.H ∧ h.W * h.H ≤ 4000 := gridOk_bnd hh
 have hgl : (g.Cells.xs.length : Int) = g.W * g.H := by have h_ := hg; unfold gridOk at h_; rw [Bool.and_eq_true, Bool.and_eq_true, decide_eq_true_eq] at h_; exact h_.1.2
 have hhl : (h.Cells.xs.length : Int) = h.W * h.H := by have h_ := hh; unfold gridOk at h_; rw [Bool.and_eq_true, Bool.and_eq_true, decide_eq_true_eq] at h_; exact h_.1.2
 have hsmg : smGrid 1048576 g.dat := by show g.Cells.xs.length ≤ 1048576; omega
 refine enter (vs := [.agg #[i64 g.W, i64 g.H, .slice g.Cells.A g.Cells.n g.Cells.c], .agg #[i64 h.W, i64 h.H, .slice h.Cells.A h.Cells.n h.Cells.c], i64 x, i64 y]) 85 Tryz.func132 rfl Tryz.ntmps132 rfl rfl ?_
 have hs1 := St.init w
 refine WC.sr ?_
 refine WL.bx hs1 rfl (fun b2 _ hs3 => ?_)
 refine WL.bx hs3 rfl (fun b4 _ hs5 => ?_)
 refine WL.al hs5 Tryz.zeroValue40 rfl rfl (fun b6 _ hs7 => ?_)
 refine WL.nil ?_
 refine WC.seq (fun K8 hK8 => ?_)
 refine WC.sr ?_
 refine WL.run tbk 1 hs7 [2] rfl ⟨rfl, trivial⟩ ?_
 refine WL.call rfl rfl rfl (Run.call Tryz.call166 rfl rfl rfl) (c_spec_GridOk g _ (okGridR.st0 f_g hs7)) ?_
 rintro _ whs9 ⟨rfl, hs9⟩
 replace hs9 := hs7.call0 hs9
 refine ⟨_, rfl, ?_⟩
 refine WL.run tbk 2 hs9 [] rfl trivial ?_
 apply WL.gO 3 Acts.nil hs9 rfl
 ·intro g10 J11
  have qg10 := g10
  try simp only [bf, within_iff, within_not] at qg10
  refine WL.runA tbk 1 (Acts.nil.cons (j := 3) rfl g10) hs9 [1] rfl ⟨rfl, trivial⟩ ?_
  refine WL.call (wantF rfl g10) rfl rfl (Run.call Tryz.call166 rfl rfl rfl) (c_spec_GridOk h _ (okGridR.st0 f_h hs9)) ?_
  rintro _ whs12 ⟨rfl, hs12⟩
  replace hs12 := hs9.call0 hs12
  refine ⟨_, rfl, ?_⟩
  refine WL.runA tbk 1 (Acts.nil.cons (j := 3) rfl g10) hs12 [] rfl trivial ?_
  exact WL.eO 3 Acts.nil J11 hs12 g10 rfl rfl
 ·intro _ hs13
  refine WL.run tbk 1 hs13 [] rfl trivial ?_
  apply WL.gO 3 Acts.nil hs13 rfl
  ·intro g14 J15
   have qg14 := g14
   try simp only [bf, within_iff, within_not] at qg14
   refine WL.runA tbk 1 (Acts.nil.cons (j := 8) rfl g14) hs13 [] rfl trivial ?_
   refine WL.call (wantF rfl g14) rfl rfl (Run.call Tryz.call217 rfl rfl rfl) (c_spec_l07Small _ _) ?_
   rintro _ whs16 ⟨rfl, hs16⟩
   replace hs16 := hs13.call0 hs16
   refine ⟨_, rfl, ?_⟩
   refine WL.runA tbk 1 (Acts.nil.cons (j := 8) rfl g14) hs16 [] rfl trivial ?_
   exact WL.eO 3 Acts.nil J15 hs16 g14 rfl rfl
  ·intro _ hs17
   refine WL.run tbk 1 hs17 [] rfl trivial ?_
   apply WL.gO 3 Acts.nil hs17 rfl
   ·intro g18 J19
    have qg18 := g18
    try simp only [bf, within_iff, within_not] at qg18
    refine WL.runA tbk 1 (Acts.nil.cons (j := 13) rfl g18) hs17 [] rfl trivial ?_
    refine WL.call (wantF rfl g18) rfl rfl (Run.call Tryz.call217 rfl rfl rfl) (c_spec_l07Small _ _) ?_
    rintro _ whs20 ⟨rfl, hs20⟩
    replace hs20 := hs17.call0 hs20
    refine ⟨_, rfl, ?_⟩
    refine WL.runA tbk 1 (Acts.nil.cons (j := 13) rfl g18) hs20 [] rfl trivial ?_
    exact WL.eO 3 Acts.nil J19 hs20 g18 rfl rfl
   ·intro _ hs21
    refine WL.nil ?_
    refine WC.cond rfl (fun h22 => ?_) (fun h22 => ?_)
    ·have qh22 := h22
     try simp only [bf, within_iff, within_not] at qh22
     exfalso; have h9 := h22; simp [hg, hh, within] at h9; omega
    ·have qh22 := h22
     try simp only [bf, within_iff, within_not] at qh22
     refine WC.skip ?_
     refine hK8 _ _ ?_
     refine WC.sr ?_
     refine WL.run tbk 1 hs21 [2] rfl ⟨rfl, trivial⟩ ?_
     refine WL.call rfl rfl rfl (Run.call Tryz.call169 rfl rfl rfl) (c_spec_l07Copy g _ (okGridR.st0 f_g hs21) ?_) ?_
     · first | (first | assumption | rfl | omega) | (first | assumption | omega | (exact Nat.le_trans hsmg (by decide)))
     rintro _ whs23 ⟨r24, L1_25, rfl, hs23, ho26, hd27⟩
     replace hs23 := hs21.callF hs23
     refine ⟨_, rfl, ?_⟩
     replace hs23 := St.back [_, _, _] hs23
     skip
     refine WL.al hs23 Tryz.zeroValue40 rfl rfl (fun b28 _ hs29 => ?_)
     refine WL.st tbk hs29 0 rfl rfl (fun _ hs30 => ?_)
     refine WL.nil ?_
     refine WC.seq (fun K31 hK31 => ?_)
     refine WC.rr tbk hs30 [2] rfl ⟨rfl, trivial⟩ ?_
     refine WC.block ?_
     have hM36 := (St.grp1 (L1 := L1_25) [_] (St.perm (St.perm (St.perm (St.perm (St.perm hs30 (L' := [_] ++ _) (perm_front (A := [_, _, _]) (List.Perm.refl _))) (L' := [_] ++ _) (perm_front (A := [_, _, _]) (List.Perm.refl _))) (L' := [_] ++ _) (perm_front (A := [_, _, _]) (List.Perm.refl _))) (L' := L1_25 ++ _) (perm_front (A := [_, _, _, _]) (List.Perm.refl _))) (L' := [_] ++ _) (perm_front (A := L1_25) (perm_front (A := [_, _, _]) (List.Perm.refl _)))))
     refine WC.loopV (α := Hp) [(0, _), (1, _), (2, _), (3, _), (4, _), (5, _), (8, _), (9, _), (14, _), (15, _), (16, _), (17, _), (21, _), (22, _), (26, _), (27, _), (31, _), (33, _), (34, _), (35, _), (36, _), (37, _)] ⟨rfl, rfl, rfl, rfl, rfl, rfl, rfl, rfl, rfl, rfl, rfl, rfl, rfl, rfl, rfl, rfl, rfl, rfl, rfl, rfl, rfl, rfl, trivial⟩ (fun a_ => a_) _ hM36 (fun k_ (a_ : Hp) f => ∃ (i : Nat) (r : GridR) (L34 : Hp), k_ = h.Cells.n - i ∧ a_ = [(b28, .cells (List.toArray [i64 r.W, i64 r.H, .slice r.Cells.A r.Cells.n r.Cells.c]) 40 (0, 0))] ++ L34 ∧ (i ≤ h.Cells.n) ∧ (r.W = g.W ∧ r.H = g.H ∧ r.Cells.xs.length = g.Cells.xs.length) ∧ (∀ k, k < g.Cells.xs.length → cat r.Cells.xs k = pasteTo g.dat h.dat x y i k) ∧ ownGridR r L34 ∧ Sub [(38, .int .i64 i)] f) (((fun (i : Nat) => h.Cells.n - i) (0))) ?_ ?_
     ·refine ⟨0, r24, L1_25, rfl, rfl, ?_, ?_, ?_, ho26, ⟨rfl, trivial⟩⟩
      · omega
      · exact ⟨congrArg GridD.W hd27, congrArg GridD.H hd27, congrArg (fun d : GridD => d.Cells.length) hd27⟩
      · intro k hk; rw [pasteTo_zero]; exact congrArg (fun d : GridD => cat d.Cells k) hd27
     ·rintro _ _ f w ⟨i, r, L34, rfl, rfl, p0, p1, p2, ho35, hG⟩ hF hs37
      refine WC.sub _ (hG.app hF) ?_
      clear hG hF
      replace hs37 := St.ungrp1 [_] hs37
      have hs38 := (St.perm (St.perm (St.perm (St.perm hs37 (L' := [_] ++ _) (perm_front (A := [_]) (perm_front (A := L34) (perm_front (A := [_, _]) (List.Perm.refl _))))) (L' := [_] ++ _) (perm_front (A := [_, _]) (perm_front (A := L34) (perm_front (A := [_]) (List.Perm.refl _))))) (L' := [_] ++ _) (perm_front (A := [_, _, _]) (perm_front (A := L34) (List.Perm.refl _)))) (L' := [_] ++ _) (perm_front (A := [_, _, _]) (List.Perm.refl _)))
      have hsmr : smGrid 549755813888 r.dat := by show r.Cells.xs.length ≤ 549755813888; omega
      have hnr := ownGridR.len ‹ownGridR r _›
      refine WC.rr tbk hs38 [] rfl trivial ?_
      refine WC.seq (fun K39 hK39 => ?_)
      refine WC.cond rfl (fun h40 => ?_) (fun h40 => ?_)
      ·have qh40 := h40
       try simp only [bf, within_iff, within_not] at qh40
       obtain ⟨q, m, hkd, hkm, hiq, hmw, hqh⟩ := divmod_ex (i := i) (w := h.W) (h := h.H) (by omega) (by omega) (by omega)
       have hk0 : ∀ k, k < g.Cells.xs.length → k < g.W.toNat * g.H.toNat := fun k hk => by have e9 : ((g.W.toNat * g.H.toNat : Nat) : Int) = g.W * g.H := by { rw [Int.natCast_mul, Int.toNat_of_nonneg (by omega), Int.toNat_of_nonneg (by omega)] }; omega
       refine WC.skip ?_
       refine hK39 _ _ ?_
       refine WC.seq (fun K41 hK41 => ?_)
       refine WC.block ?_
       refine WC.sr ?_
       refine WL.run tbk 1 hs38 [] rfl trivial ?_
       refine WL.val rfl rfl rfl (Run.idxN Tryz.runUnderlying38 Tryz.sizeOf65 rfl rfl rfl ?_ ?_ ?_) ?_
       · exact SlF.some_ (SlF.st0 f_h.Cells hs38)
       · first | omega | (rw [hkd, hkm]; omega)
       · first | omega | (rw [hkd, hkm]; omega)
       refine WL.val rfl rfl rfl (Run.loadA Tryz.isAgg65 Tryz.sizeOf65 rfl rfl (SlF.whole (SlF.st0 f_h.Cells hs38) ?_)) ?_
       · first | omega | (rw [hkd, hkm]; omega)
       refine WL.al hs38 Tryz.zeroValue65 rfl rfl (fun b42 _ hs43 => ?_)
       refine WL.run tbk 1 hs43 [] rfl trivial ?_
       refine WL.st tbk hs43 0 rfl rfl (fun _ hs44 => ?_)
       refine WL.nil ?_
       refine WC.sr ?_
       refine WL.run tbk 4 hs44 [3] rfl ⟨rfl, trivial⟩ ?_
       refine WL.val rfl rfl rfl (Run.rem rfl rfl rfl ?_ ?_) ?_
       · omega
       · omega
       refine WL.run tbk 2 hs44 [] rfl ⟨?_, trivial⟩ ?_
       · rw [hkm]; constructor <;> omega
       refine WL.nil ?_
       refine WC.sr ?_
       refine WL.run tbk 4 hs44 [3] rfl ⟨rfl, trivial⟩ ?_
       refine WL.val rfl rfl rfl (Run.quo rfl rfl rfl ?_ ?_ ?_) ?_
       · omega
       · omega
       · omega
       refine WL.run tbk 2 hs44 [] rfl ⟨?_, trivial⟩ ?_
       · rw [hkd]; constructor <;> omega
       refine WL.nil ?_
       refine WC.sr ?_
       refine WL.run tbk 3 hs44 [] rfl trivial ?_
       refine WL.pA tbk 4 Acts.nil hs44 [4] rfl rfl rfl rfl (fun g_ => ⟨rfl, trivial⟩) ?_
       refine WL.run tbk 1 hs44 [] rfl trivial ?_
       refine WL.pA tbk 2 Acts.nil hs44 [] rfl rfl rfl rfl (fun g_ => trivial) ?_
       refine WL.run tbk 1 hs44 [] rfl trivial ?_
       refine WL.pA tbk 4 Acts.nil hs44 [4] rfl rfl rfl rfl (fun g_ => ⟨rfl, trivial⟩) ?_
       refine WL.nil ?_
       refine WC.cond rfl (fun h45 => ?_) (fun h45 => ?_)
       ·have qh45 := h45
        try simp only [bf, within_iff, within_not] at qh45
        have hin : ((0 ≤ x + (m : Int) ∧ x + (m : Int) < g.W) ∧ 0 ≤ y + (q : Int) ∧ y + (q : Int) < g.H) := by have h9 := h45; simp [hkm, hkd] at h9; omega
        have hix : ((y + (i : Int) / h.W) * g.W + (x + (i : Int) % h.W)).toNat = (y + (q : Int)).toNat * g.dat.W.toNat + (x + (m : Int)).toNat := by rw [hkm, hkd, Int.toNat_add (Int.mul_nonneg hin.2.1 (by omega)) hin.1.1, Int.toNat_mul hin.2.1 (by omega)]; rfl
        have hv0 : 0 ≤ (y + (q : Int)) * g.W := Int.mul_nonneg (by omega) (by omega)
        have hv1 : (y + (q : Int) + 1) * g.W ≤ g.H * g.W := Int.mul_le_mul_of_nonneg_right (by omega) (by omega)
        rw [Int.add_mul _ 1, Int.one_mul, Int.mul_comm g.H g.W] at hv1
        refine WC.region ?_
        refine WL.run tbk 9 hs44 [1, 4, 0] rfl ⟨rfl, ?_, ?_, rfl, rfl, trivial⟩ ?_
        · rw [hkd, hkm]; constructor <;> omega
        · rw [hkd]; constructor <;> omega
        refine WL.val rfl rfl rfl (Run.idx Tryz.runUnderlying38 Tryz.sizeOf65 rfl rfl rfl ?_ ?_ ?_) ?_
        · exact SlF.some_ (ownGridR.ok (B := 549755813888) ho35 (fun p_ hp_ => (hs44.own p_ (List.mem_append_right [_, _, _, _, _] (List.mem_append_left _ hp_))).1) hsmr).Cells
        · first | omega | (rw [hkd, hkm]; omega)
        · first | omega | (rw [hkd, hkm]; omega)
        refine WL.storeF1 (x' := _) (St.perm hs44 (L' := L34 ++ _) (perm_front (A := [_, _, _, _, _]) (List.Perm.refl _))) ho35 Tryz.sizeOf65 rfl rfl rfl rfl rfl rfl rfl rfl rfl ?_ rfl (fun L46 whs47 hs47 ho48 _ => ?_)
        · first | omega | (rw [hkd, hkm]; omega)
        replace hs47 := St.back [_, _, _, _, _] hs47
        refine WL.nil ?_
        refine hK41 _ _ ?_
        refine WC.region ?_
        refine WL.run tbk 2 hs47 [] rfl ⟨by omega, trivial⟩ ?_
        refine WL.nil ?_
        refine tkN ?_
        replace hs47 := St.drop hs47 (List.sublist_append_right [_] _)
        have hF49 := (St.grp1 (L1 := L46) [_] (St.perm (St.perm (St.perm (St.perm (St.perm hs47 (L' := [_] ++ _) (perm_front (A := [_, _, _]) (List.Perm.refl _))) (L' := [_] ++ _) (perm_front (A := [_, _, _]) (List.Perm.refl _))) (L' := [_] ++ _) (perm_front (A := [_, _, _]) (List.Perm.refl _))) (L' := L46 ++ _) (perm_front (A := [_, _, _, _]) (List.Perm.refl _))) (L' := [_] ++ _) (perm_front (A := L46) (perm_front (A := [_, _, _]) (List.Perm.refl _)))))
        refine ⟨⟨rfl, rfl, rfl, rfl, rfl, rfl, rfl, rfl, rfl, rfl, rfl, rfl, rfl, rfl, rfl, rfl, rfl, rfl, rfl, rfl, rfl, rfl, trivial⟩, _, hF49, _, ?_, i + 1, ⟨r.W, r.H, SlD.of ho48⟩, L46, rfl, rfl, ?_, ?_, ?_, ho48, ⟨rfl, trivial⟩⟩
        · omega
        · omega
        · first | exact p1 | exact ⟨p1.1, p1.2.1, by simp only [List.length_set]; exact p1.2.2⟩
        · intro k hk; first | (show cat _ k = pasteTo g.dat h.dat x y (i + 1) k; have _ := hin; rw [pasteTo_inE (g := g.dat) (h := h.dat) hiq hmw hqh hin.1 hin.2.1]; show gat encCell (r.Cells.xs.set _ _) k = _; rw [gat_set2 (by rw [hkd, hkm]; omega), hix]; split; rfl; exact p2 k hk) | (show cat _ k = pasteTo g.dat h.dat x y (i + 1) k; rw [pasteTo_outE (g := g.dat) (h := h.dat) hiq hmw (by show 0 < g.W.toNat; omega) (by show k < g.W.toNat * g.H.toNat; exact hk0 k hk) hout]; exact p2 k hk)
       ·have qh45 := h45
        try simp only [bf, within_iff, within_not] at qh45
        have hout : ¬ ((0 ≤ x + (m : Int) ∧ x + (m : Int) < g.W) ∧ 0 ≤ y + (q : Int) ∧ y + (q : Int) < g.H) := by have h9 := h45; simp [hkm, hkd] at h9; omega
        refine WC.skip ?_
        refine hK41 _ _ ?_
        refine WC.region ?_
        refine WL.run tbk 2 hs44 [] rfl ⟨by omega, trivial⟩ ?_
        refine WL.nil ?_
        refine tkN ?_
        replace hs44 := St.drop hs44 (List.sublist_append_right [_] _)
        have hF50 := (St.grp1 (L1 := L34) [_] (St.perm (St.perm (St.perm (St.perm (St.perm hs44 (L' := [_] ++ _) (perm_front (A := [_, _, _]) (List.Perm.refl _))) (L' := [_] ++ _) (perm_front (A := [_, _, _]) (List.Perm.refl _))) (L' := [_] ++ _) (perm_front (A := [_, _, _]) (List.Perm.refl _))) (L' := L34 ++ _) (perm_front (A := [_, _, _, _]) (List.Perm.refl _))) (L' := [_] ++ _) (perm_front (A := L34) (perm_front (A := [_, _, _]) (List.Perm.refl _)))))
        refine ⟨⟨rfl, rfl, rfl, rfl, rfl, rfl, rfl, rfl, rfl, rfl, rfl, rfl, rfl, rfl, rfl, rfl, rfl, rfl, rfl, rfl, rfl, rfl, trivial⟩, _, hF50, _, ?_, i + 1, r, L34, rfl, rfl, ?_, ?_, ?_, ho35, ⟨rfl, trivial⟩⟩
        · omega
        · omega
        · first | exact p1 | exact ⟨p1.1, p1.2.1, by simp only [List.length_set]; exact p1.2.2⟩
        · intro k hk; first | (show cat _ k = pasteTo g.dat h.dat x y (i + 1) k; have _ := hin; rw [pasteTo_inE (g := g.dat) (h := h.dat) hiq hmw hqh hin.1 hin.2.1]; show gat encCell (r.Cells.xs.set _ _) k = _; rw [gat_set2 (by rw [hkd, hkm]; omega), hix]; split; rfl; exact p2 k hk) | (show cat _ k = pasteTo g.dat h.dat x y (i + 1) k; rw [pasteTo_outE (g := g.dat) (h := h.dat) hiq hmw (by show 0 < g.W.toNat; omega) (by show k < g.W.toNat * g.H.toNat; exact hk0 k hk) hout]; exact p2 k hk)
      ·have qh40 := h40
       try simp only [bf, within_iff, within_not] at qh40
       refine WC.exit ?_
       refine hK31 _ _ ?_
       refine WC.sr ?_
       refine WL.run tbk 1 hs38 [0] rfl ⟨rfl, trivial⟩ ?_
       refine WL.st tbk hs38 1 rfl rfl (fun _ hs51 => ?_)
       refine WL.nil ?_
       refine WC.ret ?_
       refine retV1 rfl (resV.cellA tbk hs51 1 rfl rfl rfl rfl) ?_
       refine ⟨r, _, rfl, (St.keep1 (St.perm hs51 (L' := L34 ++ _) (perm_front (A := [_, _, _, _]) (List.Perm.refl _)))), ?_, ?_⟩
       · exact ho35
       · show GridD.mk r.W r.H r.Cells.xs = _; rw [p1.1, p1.2.1]; unfold gPaste gmap; congr 1; refine ext_gat (F := encCell) (by rw [p1.2.2]; rfl) (fun k hk => ?_); rw [← pasteTo_all (i := i) (by show h.H.toNat * h.W.toNat ≤ _; have e9 : ((h.W.toNat * h.H.toNat : Nat) : Int) = h.W * h.H := by { rw [Int.natCast_mul, Int.toNat_of_nonneg (by omega), Int.toNat_of_nonneg (by omega)] }; rw [Nat.mul_comm h.H.toNat]; omega)]; exact p2 k hk
end Go.Proofs.YtlmcekfdlgkffaaGreat
