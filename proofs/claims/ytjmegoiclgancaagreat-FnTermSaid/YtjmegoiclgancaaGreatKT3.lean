/-
  What the proof stands on, part 3.
-/
import Derived.Test.YtjmegoiclgancaaGreatKT2
namespace Go.Proofs.YtjmegoiclgancaaGreat
open Go Go.RowKit
set_option linter.unusedVariables false
set_option linter.unusedSimpArgs false
theorem k20_ (g : GridR) (w : World) (f_g : okGridR 549755813888 w g) :
    Calls Tryz.prog 93 #[.agg #[i64 g.W, i64 g.H, .slice g.Cells.A g.Cells.n g.Cells.c]] w fun e w' => e = .returned (.bool (gridOk g.dat)) ∧ St w [] [] w' := by
 have nb_g_Cells := f_g.Cells_n
 have nl_g_Cells := f_g.Cells.len
 refine enter 24 Tryz.func93 rfl Tryz.ntmps93 rfl rfl ?_
 have hs1 := St.init w
 refine WC.sr (WL.bx hs1 rfl (fun b2 _ hs3 => WL.r 1 hs3 [] rfl (WL.nil (WC.sr (WL.r 4 hs3 [0, 0] rfl (WL.cl Tryz.call132 rfl (k14_ _ _ _) ?_))))))
 rintro _ whs4 ⟨rfl, hs4⟩
 replace hs4 := hs3.call0 hs4
 refine ⟨_, rfl, WL.r 1 hs4 [] rfl ?_⟩
 apply WL.gA 9 Acts.nil hs4 rfl
 ·intro g5 J6
  have qg5 := g5
  try simp only [bf, within_iff, within_not] at qg5
  refine WL.runA tbk 9 (Acts.nil.cons (j := 5) rfl g5) hs4 [0, 0, 0] rfl ⟨?_, rfl, rfl, rfl, trivial⟩ ?_
  · (obtain ⟨_, _, h9, h10⟩ := isSize_bnd (w := g.W) (h := g.H) (by assumption); constructor <;> omega)
  exact WL.eA 9 Acts.nil J6 hs4 g5 rfl rfl
 intro _ hs7
 refine WL.r 1 hs7 [] rfl ?_
 apply WL.gA 3 Acts.nil hs7 rfl
 ·intro g8 J9
  have qg8 := g8
  try simp only [bf, within_iff, within_not] at qg8
  refine WL.runA tbk 2 (Acts.nil.cons (j := 16) rfl g8) hs7 [0] rfl ⟨rfl, trivial⟩ (WL.call (wantT rfl g8) rfl rfl (Run.call Tryz.call109 rfl rfl rfl) (k10_ _ _ _ _ _ (SlF.st0 f_g.Cells hs7) ?_) ?_)
  · first | assumption | rfl | omega
  rintro _ whs10 ⟨rfl, hs10⟩
  replace hs10 := hs7.call0 hs10
  refine ⟨_, rfl, WL.eA 3 Acts.nil J9 hs10 g8 rfl rfl⟩
 intro _ hs11
 refine WL.r 1 hs11 [] rfl (WL.nil (WC.ret (rtv rfl rfl hs11 ?_)))
 rw [← nl_g_Cells]; rfl
theorem k21_ (g : GridR) (x : Int) (y : Int) (w : World) (f_g : okGridR 549755813888 w g) (hw : 0 ≤ g.W ∧ g.W ≤ 120) (hh : 0 ≤ g.H ∧ g.H ≤ 120) :
    Calls Tryz.prog 94 #[.agg #[i64 g.W, i64 g.H, .slice g.Cells.A g.Cells.n g.Cells.c], i64 x, i64 y] w fun e w' => e = .returned (.bool (gridHas g.dat x y)) ∧ St w [] [] w' := by
 have nb_g_Cells := f_g.Cells_n
 have nl_g_Cells := f_g.Cells.len
 refine enter 19 Tryz.func94 rfl Tryz.ntmps94 rfl rfl ?_
 have hs1 := St.init w
 refine WC.sr (WL.bx hs1 rfl (fun b2 _ hs3 => WL.r 1 hs3 [] rfl (WL.nil (WC.sr (WL.r 4 hs3 [0] rfl (WL.cl Tryz.call97 rfl (k0_ _ _ _ _) ?_))))))
 rintro _ whs4 ⟨rfl, hs4⟩
 replace hs4 := hs3.call0 hs4
 refine ⟨_, rfl, WL.r 1 hs4 [] rfl ?_⟩
 apply WL.gA 5 Acts.nil hs4 rfl
 ·intro g5 J6
  have qg5 := g5
  try simp only [bf, within_iff, within_not] at qg5
  refine WL.runA tbk 4 (Acts.nil.cons (j := 5) rfl g5) hs4 [0] rfl ⟨by omega, rfl, trivial⟩ (WL.call (wantT rfl g5) rfl rfl (Run.call Tryz.call97 rfl rfl rfl) (k0_ _ _ _ _) ?_)
  rintro _ whs7 ⟨rfl, hs7⟩
  replace hs7 := hs4.call0 hs7
  refine ⟨_, rfl, WL.eA 5 Acts.nil J6 hs7 g5 rfl rfl⟩
 intro _ hs8
 refine WL.r 1 hs8 [] rfl (WL.nil (WC.ret (rtv rfl rfl hs8 ?_)))
 rfl
theorem k22_ (A_l : Option Addr) (n_l c_l : Nat) (l : List Int) (lo : Int) (hi : Int) (w : World) (f_l : SlF encI w A_l n_l l) (hn : n_l ≤ 549755813888) :
    Calls Tryz.prog 96 #[.slice A_l n_l c_l, i64 lo, i64 hi] w fun e w' => e = .returned (.bool (isAsc l lo hi)) ∧ St w [] [] w' := by
 refine enter 35 Tryz.func96 rfl Tryz.ntmps96 rfl rfl ?_
 have hs1 := St.init w
 refine WC.r1 hs1 [] rfl (WC.seq (fun K2 hK2 => WC.r1 hs1 [] rfl (WC.block ?_)))
 refine WC.lS [0, 1, 2, 9, 10] rfl hs1 (fun k_ f w' => ∃ (i : Nat), k_ = n_l - i ∧ (i ≤ n_l) ∧ (∀ j, j < i → ascAt l lo hi j = true) ∧ Sub [(11, .int .i64 i)] f) ((fun (i : Nat) => n_l - i) (0)) ?_ ?_
 ·refine ⟨0, rfl, ?_, ?_, ⟨rfl, trivial⟩⟩
  · exact Nat.zero_le _
  · exact fun j hj => absurd hj (by omega)
 clear hs1
 rintro _ f w ⟨i, rfl, p0, p1, hG⟩ hF hs3
 refine WC.sub _ (hG.app hF) ?_
 clear hG hF
 refine WC.r1 hs3 [] rfl (WC.seq (fun K4 hK4 => ?_))
 refine WC.cq rfl (fun h5 qh5 => ?_) (fun h5 qh5 => ?_)
 ·refine WC.skip (hK4 _ _ (WC.seq (fun K6 hK6 => WC.block (WC.sr (WL.r 1 hs3 [] rfl ?_)))))
  refine WL.val rfl rfl rfl (Run.idxN Tryz.runUnderlying23 Tryz.sizeOf3 rfl rfl rfl ?_ ?_ ?_) ?_
  · exact SlF.some_ (SlF.st0 f_l hs3)
  · omega
  · omega
  refine WL.val rfl rfl rfl (Run.load Tryz.isAgg3 rfl rfl (SlF.one1 (SlF.st0 f_l hs3) ?_ rfl)) ?_
  · omega
  refine WL.r 2 hs3 [] rfl (WL.nil (WC.sr (WL.r 3 hs3 [] rfl (WL.cl Tryz.call97 rfl (k0_ _ _ _ _) ?_))))
  rintro _ whs7 ⟨rfl, hs7⟩
  replace hs7 := hs3.call0 hs7
  refine ⟨_, rfl, WL.r 2 hs7 [] rfl ?_⟩
  apply WL.gO 11 Acts.nil hs7 rfl
  ·intro g8 J9
   have qg8 := g8
   try simp only [bf, within_iff, within_not] at qg8
   refine WL.runA tbk 3 (Acts.nil.cons (j := 5) rfl g8) hs7 [] rfl trivial ?_
   apply WL.gA 7 (Acts.nil.cons (j := 5) rfl g8) hs7 rfl
   ·intro g10 J11
    have qg10 := g10
    try simp only [bf, within_iff, within_not] at qg10
    refine WL.runA tbk 3 (Acts.nil.cons (j := 8) rfl g10) hs7 [] rfl ⟨by omega, trivial⟩ (WL.val (wantT rfl g10) rfl rfl (Run.idxK (i - 1) Tryz.runUnderlying23 Tryz.sizeOf3 rfl rfl rfl ?_ ?_ ?_) ?_)
    · exact SlF.some_ (SlF.st0 f_l hs7)
    · omega
    · omega
    refine WL.val (wantT rfl g10) rfl rfl (Run.load Tryz.isAgg3 rfl rfl (SlF.one1 (SlF.st0 f_l hs7) ?_ rfl)) ?_
    · omega
    refine WL.runA tbk 2 (Acts.nil.cons (j := 8) rfl g10) hs7 [] rfl trivial (WL.eA 7 (Acts.nil.cons (j := 5) rfl g8) J11 hs7 g10 rfl rfl)
   intro _ hs12
   exact WL.eO 4 Acts.nil J9 hs12 g8 rfl rfl
  intro _ hs13
  refine WL.nil (WC.cq rfl (fun h14 qh14 => ?_) (fun h14 qh14 => ?_))
  ·have ha : ascAt l lo hi i = false := by unfold ascAt; have h9 := h14; simp only [iat]; cases hw_ : within (gat encI l i) lo hi <;> rw [hw_] at h9 <;> simp at h9 ⊢ <;> omega
   refine WC.r1 hs13 [] rfl (WC.ret (ibR (tkR (tkR (ibR (tkR ?_))))))
   clear hK6 hK2
   refine rtv rfl rfl hs13 ?_
   rw [isAsc_not (by rw [f_l.len]; omega) ha]
  have ha : ascAt l lo hi i = true := by unfold ascAt; have h9 := h14; simp only [iat]; cases hw_ : within (gat encI l i) lo hi <;> rw [hw_] at h9 <;> simp at h9 ⊢ <;> omega
  refine WC.skip (hK6 _ _ (WC.region (WL.r 2 hs13 [] rfl (WL.nil (tkN ?_)))))
  refine ⟨sbF rfl, hs13, _, ?_, i + 1, rfl, ?_, ?_, ⟨rfl, trivial⟩⟩
  · omega
  · omega
  · intro j hj; rcases Nat.lt_or_ge j i with h_ | h_
    · exact p1 j h_
    · obtain rfl : j = i := by omega
      exact ha
 refine WC.exit (hK2 _ _ (WC.r1 hs3 [] rfl (WC.ret (rtv rfl rfl hs3 ?_))))
 rw [isAsc_all (fun j hj => p1 j (by rw [f_l.len] at hj; omega))]
theorem k23_ (r : RowR) (w : World) (f_r : okRowR 549755813888 w r) :
    Calls Tryz.prog 176 #[.agg #[.slice r.Cells.A r.Cells.n r.Cells.c]] w fun e w' => e = .returned (.bool (!rowOk r.dat)) ∧ St w [] [] w' := by
 have nb_r_Cells := f_r.Cells_n
 have nl_r_Cells := f_r.Cells.len
 refine enter 14 Tryz.func176 rfl Tryz.ntmps176 rfl rfl ?_
 have hs1 := St.init w
 refine WC.sr (WL.bx hs1 rfl (fun b2 _ hs3 => WL.r 1 hs3 [] rfl (WL.nil (WC.sr (WL.r 3 hs3 [0] rfl (WL.cl Tryz.call97 rfl (k0_ _ _ _ _) ?_))))))
 rintro _ whs4 ⟨rfl, hs4⟩
 replace hs4 := hs3.call0 hs4
 refine ⟨_, rfl, WL.r 2 hs4 [] rfl ?_⟩
 apply WL.gO 4 Acts.nil hs4 rfl
 ·intro g5 J6
  have qg5 := g5
  try simp only [bf, within_iff, within_not] at qg5
  refine WL.runA tbk 2 (Acts.nil.cons (j := 5) rfl g5) hs4 [0] rfl ⟨rfl, trivial⟩ (WL.call (wantF rfl g5) rfl rfl (Run.call Tryz.call109 rfl rfl rfl) (k10_ _ _ _ _ _ (SlF.st0 f_r.Cells hs4) ?_) ?_)
  · first | assumption | rfl | omega
  rintro _ whs7 ⟨rfl, hs7⟩
  replace hs7 := hs4.call0 hs7
  refine ⟨_, rfl, WL.runA tbk 1 (Acts.nil.cons (j := 5) rfl g5) hs7 [] rfl trivial (WL.eO 4 Acts.nil J6 hs7 g5 rfl rfl)⟩
 intro _ hs8
 refine WL.r 1 hs8 [] rfl (WL.nil (WC.ret (rtv rfl rfl hs8 ?_)))
 rw [show rowOk r.dat = (within (r.Cells.n : Int) 1 120 && cellsOk r.Cells.xs) by unfold rowOk; rw [← nl_r_Cells]; rfl, Bool.not_and]
theorem k24_ (A_s : Option Addr) (n_s c_s : Nat) (s : List RowR) (w : World) (f_s : SlN encRowR (okRowR 549755813888) w A_s n_s s) (hn : n_s ≤ 549755813888) :
    Calls Tryz.prog 228 #[.slice A_s n_s c_s, .func (.func 176) #[] #[]] w fun e w' => e = .returned (.int .i64 (findI (fun r => !rowOk r.dat) s)) ∧ St w [] [] w' := by
 refine enter 19 Tryz.func228 rfl Tryz.ntmps228 rfl rfl ?_
 have hs1 := St.init w
 refine WC.r1 hs1 [] rfl (WC.seq (fun K2 hK2 => WC.r1 hs1 [] rfl (WC.block ?_)))
 refine WC.lS [0, 1, 7] rfl hs1 (fun k_ f w' => ∃ (i : Nat), k_ = n_s - i ∧ (i ≤ n_s) ∧ (∀ j, j < i → (fun r => !rowOk r.dat) (gat encRowR s j) = false) ∧ Sub [(8, .int .i64 i)] f) ((fun (i : Nat) => n_s - i) (0)) ?_ ?_
 ·refine ⟨0, rfl, ?_, ?_, ⟨rfl, trivial⟩⟩
  · exact Nat.zero_le _
  · exact fun j hj => absurd hj (by omega)
 clear hs1
 rintro _ f w ⟨i, rfl, p0, p1, hG⟩ hF hs3
 refine WC.sub _ (hG.app hF) ?_
 clear hG hF
 refine WC.r1 hs3 [] rfl (WC.seq (fun K4 hK4 => ?_))
 refine WC.cond rfl (fun h5 => ?_) (fun h5 => ?_)
 ·have qh5 := h5
  try simp only [decide_eq_true_eq, decide_eq_false_iff_not] at qh5
  refine WC.skip (hK4 _ _ (WC.seq (fun K6 hK6 => WC.block (WC.r1 hs3 [] rfl (WC.sr (WL.r 3 hs3 [] rfl ?_))))))
  refine WL.val rfl rfl rfl (Run.idxN Tryz.runUnderlying31 Tryz.sizeOf98 rfl rfl rfl ?_ ?_ ?_) ?_
  · exact SlF.some_ (SlF.st0 f_s.sl hs3)
  · omega
  · omega
  refine WL.val rfl rfl rfl (Run.loadA Tryz.isAgg98 Tryz.sizeOf98 rfl rfl (SlF.whole (SlF.st0 f_s.sl hs3) ?_)) ?_
  · omega
  refine WL.cl Tryz.call176 rfl (k23_ (gat encRowR s i) _ (okRowR.st0 (SlN.nth f_s (by omega)) hs3)) ?_
  rintro _ whs7 ⟨rfl, hs7⟩
  replace hs7 := hs3.call0 hs7
  refine ⟨_, rfl, WL.nil (WC.cond rfl (fun h8 => ?_) (fun h8 => ?_))⟩
  ·have qh8 := h8
   try simp only [decide_eq_true_eq, decide_eq_false_iff_not] at qh8
   refine WC.r1 hs7 [] rfl (WC.ret (ibR (tkR (tkR (ibR (tkR ?_))))))
   clear hK6 hK2
   refine rtv rfl rfl hs7 ?_
   rw [findI_some (F := encRowR) (by rw [f_s.len]; omega) p1 h8]
  have qh8 := h8
  try simp only [decide_eq_true_eq, decide_eq_false_iff_not] at qh8
  refine WC.skip (hK6 _ _ (WC.region (WL.r 2 hs7 [] rfl (WL.nil (tkN ?_)))))
  refine ⟨sbF rfl, hs7, _, ?_, i + 1, rfl, ?_, ?_, ⟨rfl, trivial⟩⟩
  · omega
  · omega
  · intro j hj; rcases Nat.lt_or_ge j i with h_ | h_
    · exact p1 j h_
    · obtain rfl : j = i := by omega
      exact h8
 have qh5 := h5
 try simp only [decide_eq_true_eq, decide_eq_false_iff_not] at qh5
 refine WC.exit (hK2 _ _ (WC.r1 hs3 [] rfl (WC.ret (rtv rfl rfl hs3 ?_))))
 rw [findI_none (F := encRowR) (fun j hj => p1 j (by rw [f_s.len] at hj; omega))]
theorem k25_ (A_s : Option Addr) (n_s c_s : Nat) (s : List RowR) (w : World) (f_s : SlN encRowR (okRowR 549755813888) w A_s n_s s) (hn : n_s ≤ 549755813888) :
    Calls Tryz.prog 175 #[.slice A_s n_s c_s, .func (.func 176) #[] #[]] w fun e w' => e = .returned (.bool (decide (0 ≤ findI (fun r => !rowOk r.dat) s))) ∧ St w [] [] w' := by
 refine enter 9 Tryz.func175 rfl Tryz.ntmps175 rfl rfl ?_
 have hs1 := St.init w
 refine WC.r1 hs1 [] rfl (WC.sr (WL.r 2 hs1 [] rfl (WL.cl Tryz.call228 rfl (k24_ _ _ _ _ _ (SlN.st0 okRowR.st0 f_s hs1) ?_) ?_)))
 · first | assumption | rfl | omega
 rintro _ whs2 ⟨rfl, hs2⟩
 replace hs2 := hs1.call0 hs2
 refine ⟨_, rfl, WL.r 2 hs2 [] rfl (WL.nil (WC.ret (rtv rfl rfl hs2 ?_)))⟩
 rfl
theorem k26_ (A_b : Option Addr) (n_b c_b : Nat) (b : List RowR) (l : Int) (w : World) (f_b : SlN encRowR (okRowR 549755813888) w A_b n_b b) (hn : n_b ≤ 549755813888) :
    Calls Tryz.prog 98 #[.slice A_b n_b c_b, i64 l] w fun e w' => e = .returned (.bool (backOk (b.map RowR.dat) l)) ∧ St w [] [] w' := by
 refine enter 14 Tryz.func98 rfl Tryz.ntmps98 rfl rfl ?_
 have hs1 := St.init w
 refine WC.r1 hs1 [] rfl (WC.sr (WL.r 5 hs1 [] rfl ?_))
 apply WL.gA 3 Acts.nil hs1 rfl
 ·intro g2 J3
  have qg2 := g2
  try simp only [bf, within_iff, within_not] at qg2
  refine WL.runA tbk 1 (Acts.nil.cons (j := 4) rfl g2) hs1 [] rfl trivial (WL.call (wantT rfl g2) rfl rfl (Run.call Tryz.call175 rfl rfl rfl) (k25_ _ _ _ _ _ (SlN.st0 okRowR.st0 f_b hs1) ?_) ?_)
  · first | assumption | rfl | omega
  rintro _ whs4 ⟨rfl, hs4⟩
  replace hs4 := hs1.call0 hs4
  refine ⟨_, rfl, WL.runA tbk 1 (Acts.nil.cons (j := 4) rfl g2) hs4 [] rfl trivial (WL.eA 3 Acts.nil J3 hs4 g2 rfl rfl)⟩
 intro _ hs5
 refine WL.r 1 hs5 [] rfl (WL.nil (WC.ret (rtv rfl rfl hs5 ?_)))
 unfold backOk; rw [List.length_map, f_b.len, List.all_map, ← all_find]; rfl
set_option maxHeartbeats 4000000 in
theorem k27_ (s : ScrR) (w : World) (f_s : okScrR 549755813888 w s) :
    Calls Tryz.prog 29 #[.agg (cScr s).toArray] w fun e w' => e = .returned (.bool (scrOk s.dat)) ∧ St w [] [] w' := by
 have nb_s_Main_Cells := f_s.Main.Cells_n
 have nl_s_Main_Cells := f_s.Main.Cells.len
 have nb_s_Alt_Cells := f_s.Alt.Cells_n
 have nl_s_Alt_Cells := f_s.Alt.Cells.len
 have nb_s_Tabs := f_s.Tabs_n
 have nl_s_Tabs := f_s.Tabs.len
 have nb_s_Back := f_s.Back_n
 have nl_s_Back := f_s.Back.sl.len
 have hlit : ∀ y, y ∈ [s.Main, s.Alt] → okGridR 549755813888 w y := by intro y hy; simp only [List.mem_cons, List.not_mem_nil, or_false] at hy; rcases hy with rfl | rfl; exact f_s.Main; exact f_s.Alt
 refine enter 122 Tryz.func29 rfl Tryz.ntmps29 rfl rfl ?_
 have hs1 := St.init w
 refine WC.sr (WL.bx hs1 rfl (fun b2 _ hs3 => WL.r 1 hs3 [] rfl (WL.nil (WC.seq (fun K4 hK4 => WC.sr (WL.r 4 hs3 [0, 0] rfl (WL.buildF (F := encGridR) hs3 ([s.Main, s.Alt]) Tryz.runUnderlying131 Tryz.sizeOf28 Tryz.zeroValue28 rfl rfl rfl rfl rfl rfl rfl rfl rfl rfl rfl rfl (fun A8 c9 L5 whs6 hs6 ho7 => ?_))))))))
 replace hs6 := St.back [_] hs6
 refine WL.r 2 hs6 [] rfl (WL.nil (WC.block (WC.lS [1, 9, 10] rfl hs6 (fun k_ f w' => ∃ (i : Nat), k_ = 2 - i ∧ (i ≤ 2) ∧ (∀ j, j < i → gridFit (GridR.dat (gat encGridR [s.Main, s.Alt] j)) s.W s.H = true) ∧ Sub [(11, .int .i64 i)] f) ((fun (i : Nat) => 2 - i) (0)) ?_ ?_)))
 ·refine ⟨0, rfl, ?_, ?_, ⟨rfl, trivial⟩⟩
  · omega
  · exact fun j hj => absurd hj (by omega)
 clear hs6
 rintro _ f w ⟨i, rfl, p0, p1, hG⟩ hF hs10
 refine WC.sub _ (hG.app hF) ?_
 clear hG hF
 refine WC.r1 hs10 [] rfl (WC.seq (fun K11 hK11 => ?_))
 refine WC.cq rfl (fun h12 qh12 => ?_) (fun h12 qh12 => ?_)
 ·have hi2 : i < 2 := by have h8 := h12; simp at h8; omega
  refine WC.skip (hK11 _ _ (WC.seq (fun K13 hK13 => WC.block (WC.sr ?_))))
  refine WL.val rfl rfl rfl (Run.idxN Tryz.runUnderlying131 Tryz.sizeOf28 rfl rfl rfl ?_ ?_ ?_) ?_
  · exact SlF.some_ (SlF.ofOwn ho7 (hs10.ow L5))
  · first | omega | (simp; omega)
  · first | omega | (simp; omega)
  refine WL.val rfl rfl rfl (Run.loadA Tryz.isAgg28 Tryz.sizeOf28 rfl rfl (SlF.whole (SlF.ofOwn ho7 (hs10.ow L5)) ?_)) ?_
  · first | omega | (simp; omega)
  refine WL.al hs10 Tryz.zeroValue28 rfl rfl (fun b14 _ hs15 => WL.st tbk hs15 0 rfl rfl (fun _ hs16 => WL.nil (WC.sr (WL.r 1 hs16 [0] rfl ?_))))
  refine WL.cl Tryz.call93 rfl (k20_ (gat encGridR [s.Main, s.Alt] i) _ (okGridR.st0 (hlit _ (gat_mem (by first | omega | (simp; omega)))) hs16)) ?_
  rintro _ whs17 ⟨rfl, hs17⟩
  replace hs17 := hs16.call0 hs17
  refine ⟨_, rfl, WL.r 2 hs17 [] rfl (WL.pO tbk 5 Acts.nil hs17 [0, 1] rfl rfl rfl rfl (fun g_ => ⟨rfl, rfl, trivial⟩) (WL.r 1 hs17 [] rfl (WL.pO tbk 5 Acts.nil hs17 [0, 1] rfl rfl rfl rfl (fun g_ => ⟨rfl, rfl, trivial⟩) (WL.nil (WC.cq rfl (fun h18 qh18 => ?_) (fun h18 qh18 => ?_))))))⟩
  ·have ha : gridFit (GridR.dat (gat encGridR [s.Main, s.Alt] i)) s.W s.H = false := by unfold gridFit; have h9 := h18; show (gridOk (GridR.dat (gat encGridR [s.Main, s.Alt] i)) && (decide ((gat encGridR [s.Main, s.Alt] i).W = s.W) && decide ((gat encGridR [s.Main, s.Alt] i).H = s.H))) = false; revert h9; cases gridOk (GridR.dat (gat encGridR [s.Main, s.Alt] i)) <;> cases decide ((gat encGridR [s.Main, s.Alt] i).W = s.W) <;> cases decide ((gat encGridR [s.Main, s.Alt] i).H = s.H) <;> simp
   have hp1 : scrP1 s.dat = false := by unfold scrP1; rcases (show i = 0 ∨ i = 1 by omega) with rfl | rfl; (rw [show gridFit s.dat.Main s.dat.W s.dat.H = false from ha]; rfl); (rw [show gridFit s.dat.Alt s.dat.W s.dat.H = false from ha, Bool.and_false])
   refine WC.r1 hs17 [] rfl (WC.ret (ibR (tkR (tkR (ibR (tkR ?_))))))
   clear hK13 hK4
   refine rtv rfl rfl hs17 ?_
   rw [scrOk_no (.inl hp1)]
  have ha : gridFit (GridR.dat (gat encGridR [s.Main, s.Alt] i)) s.W s.H = true := by unfold gridFit; have h9 := h18; show (gridOk (GridR.dat (gat encGridR [s.Main, s.Alt] i)) && (decide ((gat encGridR [s.Main, s.Alt] i).W = s.W) && decide ((gat encGridR [s.Main, s.Alt] i).H = s.H))) = true; revert h9; cases gridOk (GridR.dat (gat encGridR [s.Main, s.Alt] i)) <;> cases decide ((gat encGridR [s.Main, s.Alt] i).W = s.W) <;> cases decide ((gat encGridR [s.Main, s.Alt] i).H = s.H) <;> simp
  refine WC.skip (hK13 _ _ (WC.region (WL.r 2 hs17 [] rfl (WL.nil (tkN ?_)))))
  refine ⟨sbF rfl, (hs17.drop (by repeat (first | exact List.Sublist.refl _ | exact List.sublist_append_left _ _ | exact List.Sublist.trans (List.sublist_append_left _ _) (List.sublist_append_left _ _) | apply List.Sublist.cons | refine List.Sublist.trans ?_ (sR _)))), _, ?_, i + 1, rfl, ?_, ?_, ⟨rfl, trivial⟩⟩
  · omega
  · omega
  · intro j hj; rcases Nat.lt_or_ge j i with h_ | h_
    · exact p1 j h_
    · obtain rfl : j = i := by omega
      exact ha
 have hi2 : ¬ i < 2 := by have h8 := h12; simp at h8; omega
 have hp1 : scrP1 s.dat = true := by unfold scrP1; rw [show gridFit s.dat.Main s.dat.W s.dat.H = true from p1 0 (by omega), show gridFit s.dat.Alt s.dat.W s.dat.H = true from p1 1 (by omega)]; rfl
 have hbn : (1 ≤ s.W ∧ s.W ≤ 120) ∧ (1 ≤ s.H ∧ s.H ≤ 120) ∧ s.Main.W = s.W ∧ s.Main.H = s.H ∧ s.Alt.W = s.W ∧ s.Alt.H = s.H := scrP1_bnd hp1
 refine WC.exit (hK4 _ _ (WC.seq (fun K19 hK19 => WC.sr (WL.r 6 hs10 [0, 0, 0] rfl ?_))))
 refine WL.cl Tryz.call94 rfl (k21_ s.Main _ _ _ (okGridR.st0 f_s.Main hs10) ?_ ?_) ?_
 iterate 2 first | assumption | rfl | omega
 rintro _ whs20 ⟨rfl, hs20⟩
 replace hs20 := hs10.call0 hs20
 refine ⟨_, rfl, WL.r 2 hs20 [] rfl ?_⟩
 apply WL.gO 8 Acts.nil hs20 rfl
 ·intro g21 J22
  have qg21 := g21
  try simp only [bf, within_iff, within_not] at qg21
  refine WL.runA tbk 6 (Acts.nil.cons (j := 8) rfl g21) hs20 [0, 0, 0] rfl ⟨rfl, rfl, rfl, trivial⟩ (WL.call (wantF rfl g21) rfl rfl (Run.call Tryz.call94 rfl rfl rfl) (k21_ s.Main _ _ _ (okGridR.st0 f_s.Main hs20) ?_ ?_) ?_)
  iterate 2 first | assumption | rfl | omega
  rintro _ whs23 ⟨rfl, hs23⟩
  replace hs23 := hs20.call0 hs23
  refine ⟨_, rfl, WL.runA tbk 1 (Acts.nil.cons (j := 8) rfl g21) hs23 [] rfl trivial (WL.eO 8 Acts.nil J22 hs23 g21 rfl rfl)⟩
 intro _ hs24
 refine WL.r 1 hs24 [] rfl ?_
 apply WL.gO 10 Acts.nil hs24 rfl
 ·intro g25 J26
  have qg25 := g25
  try simp only [bf, within_iff, within_not] at qg25
  refine WL.runA tbk 3 (Acts.nil.cons (j := 18) rfl g25) hs24 [0] rfl ⟨rfl, trivial⟩ ?_
  refine WL.pA tbk 6 (Acts.nil.cons (j := 18) rfl g25) hs24 [0, 0] rfl rfl rfl rfl (fun g_ => by (try simp only [bf, within_iff, within_not] at g_); exact ⟨by omega, rfl, rfl, trivial⟩) (WL.eO 4 Acts.nil J26 hs24 g25 rfl rfl)
 intro _ hs27
 refine WL.r 1 hs27 [] rfl ?_
 apply WL.gO 4 Acts.nil hs27 rfl
 ·intro g28 J29
  have qg28 := g28
  try simp only [bf, within_iff, within_not] at qg28
  refine WL.runA tbk 2 (Acts.nil.cons (j := 30) rfl g28) hs27 [0] rfl ⟨rfl, trivial⟩ (WL.call (wantF rfl g28) rfl rfl (Run.call Tryz.call95 rfl rfl rfl) (k3_ _ _ _ _ _ _) ?_)
  rintro _ whs30 ⟨rfl, hs30⟩
  replace hs30 := hs27.call0 hs30
  refine ⟨_, rfl, WL.runA tbk 1 (Acts.nil.cons (j := 30) rfl g28) hs30 [] rfl trivial (WL.eO 4 Acts.nil J29 hs30 g28 rfl rfl)⟩
 intro _ hs31
 refine WL.r 1 hs31 [] rfl ?_
 apply WL.gO 4 Acts.nil hs31 rfl
 ·intro g32 J33
  have qg32 := g32
  try simp only [bf, within_iff, within_not] at qg32
  refine WL.runA tbk 2 (Acts.nil.cons (j := 36) rfl g32) hs31 [0] rfl ⟨rfl, trivial⟩ (WL.call (wantF rfl g32) rfl rfl (Run.call Tryz.call95 rfl rfl rfl) (k3_ _ _ _ _ _ _) ?_)
  rintro _ whs34 ⟨rfl, hs34⟩
  replace hs34 := hs31.call0 hs34
  refine ⟨_, rfl, WL.runA tbk 1 (Acts.nil.cons (j := 36) rfl g32) hs34 [] rfl trivial (WL.eO 4 Acts.nil J33 hs34 g32 rfl rfl)⟩
 intro _ hs35
 refine WL.nil (WC.cq rfl (fun h36 qh36 => ?_) (fun h36 qh36 => ?_))
 ·have hp2 : scrP2 s.dat = false := by have h9 := h36; unfold scrP2; show (((gridHas s.Main.dat s.X s.Y && gridHas s.Main.dat s.SaveX s.SaveY) && ((!s.Wrap || decide (s.X = s.W - 1)) && (attrOk s.A.Fg s.A.Bg && attrOk s.SaveA.Fg s.SaveA.Bg)))) = false; revert h9; cases gridHas s.Main.dat s.X s.Y <;> cases gridHas s.Main.dat s.SaveX s.SaveY <;> cases s.Wrap <;> cases decide (s.X = s.W - 1) <;> cases attrOk s.A.Fg s.A.Bg <;> cases attrOk s.SaveA.Fg s.SaveA.Bg <;> simp
  refine WC.r1 hs35 [] rfl (WC.ret (tkR ?_))
  clear hK19
  refine rtv rfl rfl hs35 ?_
  rw [scrOk_no (.inr (.inl hp2))]
 have hp2 : scrP2 s.dat = true := by have h9 := h36; unfold scrP2; show (((gridHas s.Main.dat s.X s.Y && gridHas s.Main.dat s.SaveX s.SaveY) && ((!s.Wrap || decide (s.X = s.W - 1)) && (attrOk s.A.Fg s.A.Bg && attrOk s.SaveA.Fg s.SaveA.Bg)))) = true; revert h9; cases gridHas s.Main.dat s.X s.Y <;> cases gridHas s.Main.dat s.SaveX s.SaveY <;> cases s.Wrap <;> cases decide (s.X = s.W - 1) <;> cases attrOk s.A.Fg s.A.Bg <;> cases attrOk s.SaveA.Fg s.SaveA.Bg <;> simp
 refine WC.skip (hK19 _ _ (WC.seq (fun K37 hK37 => WC.sr (WL.r 4 hs35 [0] rfl (WL.pO tbk 5 Acts.nil hs35 [0, 0] rfl rfl rfl rfl (fun g_ => ⟨rfl, rfl, trivial⟩) (WL.r 1 hs35 [] rfl (WL.pO tbk 5 Acts.nil hs35 [0, 0] rfl rfl rfl rfl (fun g_ => ⟨rfl, rfl, trivial⟩) ?_)))))))
 refine WL.r 1 hs35 [] rfl ?_
 apply WL.gO 10 Acts.nil hs35 rfl
 ·intro g38 J39
  have qg38 := g38
  try simp only [bf, within_iff, within_not] at qg38
  refine WL.runA tbk 6 (Acts.nil.cons (j := 17) rfl g38) hs35 [0, 0] rfl ⟨rfl, rfl, trivial⟩ (WL.pA tbk 3 (Acts.nil.cons (j := 17) rfl g38) hs35 [0] rfl rfl rfl rfl (fun g_ => ⟨rfl, trivial⟩) (WL.eO 7 Acts.nil J39 hs35 g38 rfl rfl))
 intro _ hs40
 refine WL.nil (WC.cq rfl (fun h41 qh41 => ?_) (fun h41 qh41 => ?_))
 ·have hp3 : scrP3 s.dat = false := by have h9 := h41; unfold scrP3; show ((decide (0 ≤ s.Top) && decide (s.Top ≤ s.Bot)) && (decide (s.Bot < s.H) && (!decide (s.Top = s.Bot) || decide (s.H = 1)))) = false; simp at h9 ⊢; omega
  refine WC.r1 hs40 [] rfl (WC.ret (tkR ?_))
  clear hK37
  refine rtv rfl rfl hs40 ?_
  rw [scrOk_no (.inr (.inr (.inl hp3)))]
 have hp3 : scrP3 s.dat = true := by have h9 := h41; unfold scrP3; show ((decide (0 ≤ s.Top) && decide (s.Top ≤ s.Bot)) && (decide (s.Bot < s.H) && (!decide (s.Top = s.Bot) || decide (s.H = 1)))) = true; simp at h9 ⊢; omega
 refine WC.skip (hK37 _ _ (WC.sr (WL.r 5 hs40 [0, 0] rfl ?_)))
 refine WL.cl Tryz.call96 rfl (k22_ _ _ _ _ _ _ _ (SlF.st0 f_s.Tabs hs40) ?_) ?_
 · first | assumption | rfl | omega
 rintro _ whs42 ⟨rfl, hs42⟩
 replace hs42 := hs40.call0 hs42
 refine ⟨_, rfl, WL.r 1 hs42 [] rfl ?_⟩
 apply WL.gA 3 Acts.nil hs42 rfl
 ·intro g43 J44
  have qg43 := g43
  try simp only [bf, within_iff, within_not] at qg43
  refine WL.runA tbk 2 (Acts.nil.cons (j := 6) rfl g43) hs42 [0] rfl ⟨rfl, trivial⟩ (WL.call (wantT rfl g43) rfl rfl (Run.call Tryz.call97 rfl rfl rfl) (k0_ _ _ _ _) ?_)
  rintro _ whs45 ⟨rfl, hs45⟩
  replace hs45 := hs42.call0 hs45
  refine ⟨_, rfl, WL.eA 3 Acts.nil J44 hs45 g43 rfl rfl⟩
 intro _ hs46
 refine WL.r 1 hs46 [] rfl ?_
 apply WL.gA 5 Acts.nil hs46 rfl
 ·intro g47 J48
  have qg47 := g47
  try simp only [bf, within_iff, within_not] at qg47
  refine WL.runA tbk 4 (Acts.nil.cons (j := 11) rfl g47) hs46 [0, 0] rfl ⟨rfl, rfl, trivial⟩ (WL.call (wantT rfl g47) rfl rfl (Run.call Tryz.call98 rfl rfl rfl) (k26_ _ _ _ _ _ _ (SlN.st0 okRowR.st0 f_s.Back hs46) ?_) ?_)
  · first | assumption | rfl | omega
  rintro _ whs49 ⟨rfl, hs49⟩
  replace hs49 := hs46.call0 hs49
  refine ⟨_, rfl, WL.eA 5 Acts.nil J48 hs49 g47 rfl rfl⟩
 intro _ hs50
 refine WL.r 1 hs50 [] rfl (WL.nil (WC.ret (rtv rfl rfl hs50 ?_)))
 rw [scrOk_yes hp1 hp2 hp3]; rfl
theorem k28_ (g : GridR) (w : World) (f_g : okGridR 549755813888 w g) :
    Calls Tryz.prog 138 #[.agg #[i64 g.W, i64 g.H, .slice g.Cells.A g.Cells.n g.Cells.c]] w fun e w' => e = .returned (.bool (gridOk g.dat)) ∧ St w [] [] w' := by
 have nb_g_Cells := f_g.Cells_n
 have nl_g_Cells := f_g.Cells.len
 refine enter 53 Tryz.func138 rfl Tryz.ntmps138 rfl rfl ?_
 have hs1 := St.init w
 refine WC.sr (WL.bx hs1 rfl (fun b2 _ hs3 => WL.r 1 hs3 [] rfl (WL.nil (WC.seq (fun K4 hK4 => WC.sr (WL.r 4 hs3 [0] rfl (WL.pO tbk 3 Acts.nil hs3 [0] rfl rfl rfl rfl (fun g_ => ⟨rfl, trivial⟩) ?_)))))))
 refine WL.r 1 hs3 [] rfl (WL.pO tbk 3 Acts.nil hs3 [0] rfl rfl rfl rfl (fun g_ => ⟨rfl, trivial⟩) (WL.r 1 hs3 [] rfl (WL.pO tbk 3 Acts.nil hs3 [0] rfl rfl rfl rfl (fun g_ => ⟨rfl, trivial⟩) (WL.r 1 hs3 [] rfl ?_))))
 apply WL.gO 6 Acts.nil hs3 rfl
 ·intro g5 J6
  have qg5 := g5
  try simp only [bf, within_iff, within_not] at qg5
  refine WL.runA tbk 6 (Acts.nil.cons (j := 18) rfl g5) hs3 [0, 0] rfl ⟨?_, rfl, rfl, trivial⟩ ?_
  · (have h9 := mul_size (w := g.W) (h := g.H) (by omega) (by omega); constructor <;> omega)
  exact WL.eO 6 Acts.nil J6 hs3 g5 rfl rfl
 intro _ hs7
 refine WL.r 1 hs7 [] rfl ?_
 apply WL.gO 9 Acts.nil hs7 rfl
 ·intro g8 J9
  have qg8 := g8
  try simp only [bf, within_iff, within_not] at qg8
  refine WL.runA tbk 9 (Acts.nil.cons (j := 26) rfl g8) hs7 [0, 0, 0] rfl ⟨?_, rfl, rfl, rfl, trivial⟩ ?_
  · (have h9 := mul_size (w := g.W) (h := g.H) (by omega) (by omega); constructor <;> omega)
  exact WL.eO 9 Acts.nil J9 hs7 g8 rfl rfl
 intro _ hs10
 refine WL.nil (WC.cq rfl (fun h11 qh11 => ?_) (fun h11 qh11 => ?_))
 ·have hg : gridOk g.dat = false := by rw [← Bool.not_eq_true]; intro h8; have hb : (1 ≤ g.W ∧ g.W ≤ 120) ∧ (1 ≤ g.H ∧ g.H ≤ 120) ∧ 1 ≤ g.W * g.H ∧ g.W * g.H ≤ 4000 := gridOk_bnd h8; unfold gridOk at h8; rw [Bool.and_eq_true, Bool.and_eq_true, decide_eq_true_eq] at h8; have h7 : (g.Cells.xs.length : Int) = g.W * g.H := h8.1.2; have h9 := h11; simp at h9; omega
  refine WC.r1 hs10 [] rfl (WC.ret (tkR ?_))
  clear hK4
  refine rtv rfl rfl hs10 ?_
  rw [hg]
 have hs : isSize g.W g.H = true ∧ (g.Cells.n : Int) = g.W * g.H := by rw [isSize_iff]; have h9 := h11; simp at h9; omega
 refine WC.skip (hK4 _ _ (WC.seq (fun K12 hK12 => WC.r1 hs10 [0] rfl (WC.block ?_))))
 refine WC.lS [41, 43, 44] rfl hs10 (fun k_ f w' => ∃ (i : Nat), k_ = g.Cells.n - i ∧ (i ≤ g.Cells.n) ∧ (∀ j, j < i → cellOk (gat encCell g.Cells.xs j) = true) ∧ Sub [(45, .int .i64 i)] f) ((fun (i : Nat) => g.Cells.n - i) (0)) ?_ ?_
 ·refine ⟨0, rfl, ?_, ?_, ⟨rfl, trivial⟩⟩
  · exact Nat.zero_le _
  · exact fun j hj => absurd hj (by omega)
 clear hs10
 rintro _ f w ⟨i, rfl, p0, p1, hG⟩ hF hs13
 refine WC.sub _ (hG.app hF) ?_
 clear hG hF
 refine WC.r1 hs13 [] rfl (WC.seq (fun K14 hK14 => ?_))
 refine WC.cq rfl (fun h15 qh15 => ?_) (fun h15 qh15 => ?_)
 ·refine WC.skip (hK14 _ _ (WC.seq (fun K16 hK16 => WC.block (WC.sr ?_))))
  refine WL.val rfl rfl rfl (Run.idxN Tryz.runUnderlying26 Tryz.sizeOf75 rfl rfl rfl ?_ ?_ ?_) ?_
  · exact SlF.some_ (SlF.st0 f_g.Cells hs13)
  · omega
  · omega
  refine WL.val rfl rfl rfl (Run.loadA Tryz.isAgg75 Tryz.sizeOf75 rfl rfl (SlF.whole (SlF.st0 f_g.Cells hs13) ?_)) ?_
  · omega
  refine WL.al hs13 Tryz.zeroValue75 rfl rfl (fun b17 _ hs18 => WL.st tbk hs18 0 rfl rfl (fun _ hs19 => WL.nil (WC.sr (WL.r 1 hs19 [0] rfl (WL.cl Tryz.call203 rfl (k6_ _ _ _ _ _ _ _) ?_)))))
  rintro _ whs20 ⟨rfl, hs20⟩
  replace hs20 := hs19.call0 hs20
  refine ⟨_, rfl, WL.r 1 hs20 [] rfl (WL.nil (WC.cq rfl (fun h21 qh21 => ?_) (fun h21 qh21 => ?_)))⟩
  ·have hci : cellOk (gat encCell g.Cells.xs i) = false := by simpa using h21
   refine WC.r1 hs20 [] rfl (WC.ret (ibR (tkR (tkR (ibR (tkR ?_))))))
   clear hK16 hK12
   refine rtv rfl rfl hs20 ?_
   rw [show gridOk g.dat = false from by unfold gridOk; rw [show cellsOk g.dat.Cells = false from cellsOk_not (i := i) (by show i < g.Cells.xs.length; omega) hci, Bool.and_false]]
  have hci : cellOk (gat encCell g.Cells.xs i) = true := by simpa using h21
  refine WC.skip (hK16 _ _ (WC.region (WL.r 2 hs20 [] rfl (WL.nil (tkN ?_)))))
  refine ⟨sbF rfl, (hs20.drop (by repeat (first | exact List.Sublist.refl _ | exact List.sublist_append_left _ _ | exact List.Sublist.trans (List.sublist_append_left _ _) (List.sublist_append_left _ _) | apply List.Sublist.cons | refine List.Sublist.trans ?_ (sR _)))), _, ?_, i + 1, rfl, ?_, ?_, ⟨rfl, trivial⟩⟩
  · omega
  · omega
  · intro j hj; rcases Nat.lt_or_ge j i with h_ | h_
    · exact p1 j h_
    · obtain rfl : j = i := by omega
      exact hci
 refine WC.exit (hK12 _ _ (WC.r1 hs13 [] rfl (WC.ret (rtv rfl rfl hs13 ?_))))
 rw [show gridOk g.dat = true from by unfold gridOk; rw [show cellsOk g.dat.Cells = true from cellsOk_all (fun j hj => p1 j (by have : j < g.Cells.xs.length := hj; omega)), show isSize g.dat.W g.dat.H = true from hs.1, decide_eq_true (show (g.dat.Cells.length : Int) = g.dat.W * g.dat.H from by show (g.Cells.xs.length : Int) = g.W * g.H; rw [nl_g_Cells]; exact hs.2)]; rfl]
theorem k29_ (r : RowR) (w : World) (f_r : okRowR 549755813888 w r) :
    Calls Tryz.prog 140 #[.agg #[.slice r.Cells.A r.Cells.n r.Cells.c]] w fun e w' => e = .returned (.bool (rowOk r.dat)) ∧ St w [] [] w' := by
 have nb_r_Cells := f_r.Cells_n
 have nl_r_Cells := f_r.Cells.len
 refine enter 26 Tryz.func140 rfl Tryz.ntmps140 rfl rfl ?_
 have hs1 := St.init w
 refine WC.sr (WL.bx hs1 rfl (fun b2 _ hs3 => WL.r 1 hs3 [] rfl (WL.nil (WC.seq (fun K4 hK4 => WC.r1 hs3 [0] rfl (WC.block ?_))))))
 refine WC.lS [1, 6, 7] rfl hs3 (fun k_ f w' => ∃ (i : Nat), k_ = r.Cells.n - i ∧ (i ≤ r.Cells.n) ∧ (∀ j, j < i → cellOk (gat encCell r.Cells.xs j) = true) ∧ Sub [(8, .int .i64 i)] f) ((fun (i : Nat) => r.Cells.n - i) (0)) ?_ ?_
 ·refine ⟨0, rfl, ?_, ?_, ⟨rfl, trivial⟩⟩
  · exact Nat.zero_le _
  · exact fun j hj => absurd hj (by omega)
 clear hs3
 rintro _ f w ⟨i, rfl, p0, p1, hG⟩ hF hs5
 refine WC.sub _ (hG.app hF) ?_
 clear hG hF
 refine WC.r1 hs5 [] rfl (WC.seq (fun K6 hK6 => ?_))
 refine WC.cq rfl (fun h7 qh7 => ?_) (fun h7 qh7 => ?_)
 ·refine WC.skip (hK6 _ _ (WC.seq (fun K8 hK8 => WC.block (WC.sr ?_))))
  refine WL.val rfl rfl rfl (Run.idxN Tryz.runUnderlying26 Tryz.sizeOf75 rfl rfl rfl ?_ ?_ ?_) ?_
  · exact SlF.some_ (SlF.st0 f_r.Cells hs5)
  · omega
  · omega
  refine WL.val rfl rfl rfl (Run.loadA Tryz.isAgg75 Tryz.sizeOf75 rfl rfl (SlF.whole (SlF.st0 f_r.Cells hs5) ?_)) ?_
  · omega
  refine WL.al hs5 Tryz.zeroValue75 rfl rfl (fun b9 _ hs10 => WL.st tbk hs10 0 rfl rfl (fun _ hs11 => WL.nil (WC.sr (WL.r 1 hs11 [0] rfl (WL.cl Tryz.call203 rfl (k6_ _ _ _ _ _ _ _) ?_)))))
  rintro _ whs12 ⟨rfl, hs12⟩
  replace hs12 := hs11.call0 hs12
  refine ⟨_, rfl, WL.r 1 hs12 [] rfl (WL.nil (WC.cq rfl (fun h13 qh13 => ?_) (fun h13 qh13 => ?_)))⟩
  ·have hci : cellOk (gat encCell r.Cells.xs i) = false := by simpa using h13
   refine WC.r1 hs12 [] rfl (WC.ret (ibR (tkR (tkR (ibR (tkR ?_))))))
   clear hK8 hK4
   refine rtv rfl rfl hs12 ?_
   rw [show rowOk r.dat = false from by unfold rowOk; rw [show cellsOk r.dat.Cells = false from cellsOk_not (i := i) (by show i < r.Cells.xs.length; omega) hci, Bool.and_false]]
  have hci : cellOk (gat encCell r.Cells.xs i) = true := by simpa using h13
  refine WC.skip (hK8 _ _ (WC.region (WL.r 2 hs12 [] rfl (WL.nil (tkN ?_)))))
  refine ⟨sbF rfl, (hs12.drop (by repeat (first | exact List.Sublist.refl _ | exact List.sublist_append_left _ _ | exact List.Sublist.trans (List.sublist_append_left _ _) (List.sublist_append_left _ _) | apply List.Sublist.cons | refine List.Sublist.trans ?_ (sR _)))), _, ?_, i + 1, rfl, ?_, ?_, ⟨rfl, trivial⟩⟩
  · omega
  · omega
  · intro j hj; rcases Nat.lt_or_ge j i with h_ | h_
    · exact p1 j h_
    · obtain rfl : j = i := by omega
      exact hci
 refine WC.exit (hK4 _ _ (WC.sr (WL.r 5 hs5 [0] rfl (WL.pA tbk 4 Acts.nil hs5 [0] rfl rfl rfl rfl (fun g_ => ⟨rfl, trivial⟩) (WL.r 1 hs5 [] rfl (WL.nil (WC.ret ?_)))))))
 refine rtv rfl rfl hs5 ?_
 rw [show rowOk r.dat = within (r.Cells.n : Int) 1 120 from by unfold rowOk; rw [show cellsOk r.dat.Cells = true from cellsOk_all (fun j hj => p1 j (by have : j < r.Cells.xs.length := hj; omega)), Bool.and_true, ← nl_r_Cells]; rfl]; rfl
set_option maxHeartbeats 4000000 in
theorem k30_ (s : ScrR) (w : World) (f_s : okScrR 549755813888 w s) :
    Calls Tryz.prog 63 #[.agg (cScr s).toArray] w fun e w' => e = .returned (.bool (scrOk s.dat)) ∧ St w [] [] w' := by
 have nb_s_Main_Cells := f_s.Main.Cells_n
 have nl_s_Main_Cells := f_s.Main.Cells.len
 have nb_s_Alt_Cells := f_s.Alt.Cells_n
 have nl_s_Alt_Cells := f_s.Alt.Cells.len
 have nb_s_Tabs := f_s.Tabs_n
 have nl_s_Tabs := f_s.Tabs.len
 have nb_s_Back := f_s.Back_n
 have nl_s_Back := f_s.Back.sl.len
 refine enter 208 Tryz.func63 rfl Tryz.ntmps63 rfl rfl ?_
 have hs1 := St.init w
 refine WC.sr (WL.bx hs1 rfl (fun b2 _ hs3 => WL.r 1 hs3 [] rfl (WL.nil (WC.seq (fun K4 hK4 => WC.sr (WL.r 2 hs3 [0] rfl (WL.cl Tryz.call138 rfl (k28_ s.Main _ (okGridR.st0 f_s.Main hs3)) ?_)))))))
 rintro _ whs5 ⟨rfl, hs5⟩
 replace hs5 := hs3.call0 hs5
 refine ⟨_, rfl, WL.r 2 hs5 [] rfl ?_⟩
 apply WL.gO 4 Acts.nil hs5 rfl
 ·intro g6 J7
  have qg6 := g6
  try simp only [bf, within_iff, within_not] at qg6
  refine WL.runA tbk 2 (Acts.nil.cons (j := 4) rfl g6) hs5 [0] rfl ⟨rfl, trivial⟩ (WL.call (wantF rfl g6) rfl rfl (Run.call Tryz.call138 rfl rfl rfl) (k28_ s.Alt _ (okGridR.st0 f_s.Alt hs5)) ?_)
  rintro _ whs8 ⟨rfl, hs8⟩
  replace hs8 := hs5.call0 hs8
  refine ⟨_, rfl, WL.runA tbk 1 (Acts.nil.cons (j := 4) rfl g6) hs8 [] rfl trivial (WL.eO 4 Acts.nil J7 hs8 g6 rfl rfl)⟩
 intro _ hs9
 refine WL.r 1 hs9 [] rfl (WL.pO tbk 6 Acts.nil hs9 [0, 0] rfl rfl rfl rfl (fun g_ => ⟨rfl, rfl, trivial⟩) (WL.r 1 hs9 [] rfl (WL.pO tbk 6 Acts.nil hs9 [0, 0] rfl rfl rfl rfl (fun g_ => ⟨rfl, rfl, trivial⟩) (WL.r 1 hs9 [] rfl (WL.pO tbk 6 Acts.nil hs9 [0, 0] rfl rfl rfl rfl (fun g_ => ⟨rfl, rfl, trivial⟩) (WL.r 1 hs9 [] rfl (WL.pO tbk 6 Acts.nil hs9 [0, 0] rfl rfl rfl rfl (fun g_ => ⟨rfl, rfl, trivial⟩) ?_)))))))
 refine WL.nil (WC.cq rfl (fun h10 qh10 => ?_) (fun h10 qh10 => ?_))
 ·have hp1 : scrP1 s.dat = false := by have h9 := h10; unfold scrP1 gridFit; show ((gridOk s.Main.dat && (decide (s.Main.W = s.W) && decide (s.Main.H = s.H))) && (gridOk s.Alt.dat && (decide (s.Alt.W = s.W) && decide (s.Alt.H = s.H)))) = false; revert h9; cases gridOk s.Main.dat <;> cases gridOk s.Alt.dat <;> cases decide (s.Main.W = s.W) <;> cases decide (s.Main.H = s.H) <;> cases decide (s.Alt.W = s.W) <;> cases decide (s.Alt.H = s.H) <;> simp
  refine WC.r1 hs9 [] rfl (WC.ret (tkR ?_))
  clear hK4
  refine rtv rfl rfl hs9 ?_
  rw [scrOk_no (.inl hp1)]
 have hp1 : scrP1 s.dat = true := by have h9 := h10; unfold scrP1 gridFit; show ((gridOk s.Main.dat && (decide (s.Main.W = s.W) && decide (s.Main.H = s.H))) && (gridOk s.Alt.dat && (decide (s.Alt.W = s.W) && decide (s.Alt.H = s.H)))) = true; revert h9; cases gridOk s.Main.dat <;> cases gridOk s.Alt.dat <;> cases decide (s.Main.W = s.W) <;> cases decide (s.Main.H = s.H) <;> cases decide (s.Alt.W = s.W) <;> cases decide (s.Alt.H = s.H) <;> simp
 have hbn : (1 ≤ s.W ∧ s.W ≤ 120) ∧ (1 ≤ s.H ∧ s.H ≤ 120) ∧ s.Main.W = s.W ∧ s.Main.H = s.H ∧ s.Alt.W = s.W ∧ s.Alt.H = s.H := scrP1_bnd hp1
 refine WC.skip (hK4 _ _ (WC.seq (fun K11 hK11 => WC.sr (WL.r 4 hs9 [0] rfl (WL.pO tbk 5 Acts.nil hs9 [0, 0] rfl rfl rfl rfl (fun g_ => ⟨rfl, rfl, trivial⟩) (WL.r 1 hs9 [] rfl (WL.pO tbk 3 Acts.nil hs9 [0] rfl rfl rfl rfl (fun g_ => ⟨rfl, trivial⟩) ?_)))))))
 refine WL.r 1 hs9 [] rfl (WL.pO tbk 5 Acts.nil hs9 [0, 0] rfl rfl rfl rfl (fun g_ => ⟨rfl, rfl, trivial⟩) (WL.r 1 hs9 [] rfl ?_))
 apply WL.gO 10 Acts.nil hs9 rfl
 ·intro g12 J13
  have qg12 := g12
  try simp only [bf, within_iff, within_not] at qg12
  refine WL.runA tbk 3 (Acts.nil.cons (j := 22) rfl g12) hs9 [0] rfl ⟨rfl, trivial⟩ ?_
  refine WL.pA tbk 6 (Acts.nil.cons (j := 22) rfl g12) hs9 [0, 0] rfl rfl rfl rfl (fun g_ => by (try simp only [bf, within_iff, within_not] at g_); exact ⟨by omega, rfl, rfl, trivial⟩) (WL.eO 4 Acts.nil J13 hs9 g12 rfl rfl)
 intro _ hs14
 refine WL.r 1 hs14 [] rfl (WL.pO tbk 3 Acts.nil hs14 [0] rfl rfl rfl rfl (fun g_ => ⟨rfl, trivial⟩) (WL.r 1 hs14 [] rfl (WL.pO tbk 5 Acts.nil hs14 [0, 0] rfl rfl rfl rfl (fun g_ => ⟨rfl, rfl, trivial⟩) (WL.r 1 hs14 [] rfl (WL.pO tbk 3 Acts.nil hs14 [0] rfl rfl rfl rfl (fun g_ => ⟨rfl, trivial⟩) (WL.r 1 hs14 [] rfl (WL.pO tbk 5 Acts.nil hs14 [0, 0] rfl rfl rfl rfl (fun g_ => ⟨rfl, rfl, trivial⟩) ?_)))))))
 refine WL.r 1 hs14 [] rfl ?_
 apply WL.gO 4 Acts.nil hs14 rfl
 ·intro g15 J16
  have qg15 := g15
  try simp only [bf, within_iff, within_not] at qg15
  refine WL.runA tbk 2 (Acts.nil.cons (j := 58) rfl g15) hs14 [0] rfl ⟨rfl, trivial⟩ (WL.call (wantF rfl g15) rfl rfl (Run.call Tryz.call139 rfl rfl rfl) (k4_ _ _ _ _ _ _) ?_)
  rintro _ whs17 ⟨rfl, hs17⟩
  replace hs17 := hs14.call0 hs17
  refine ⟨_, rfl, WL.runA tbk 1 (Acts.nil.cons (j := 58) rfl g15) hs17 [] rfl trivial (WL.eO 4 Acts.nil J16 hs17 g15 rfl rfl)⟩
 intro _ hs18
 refine WL.r 1 hs18 [] rfl ?_
 apply WL.gO 4 Acts.nil hs18 rfl
 ·intro g19 J20
  have qg19 := g19
  try simp only [bf, within_iff, within_not] at qg19
  refine WL.runA tbk 2 (Acts.nil.cons (j := 64) rfl g19) hs18 [0] rfl ⟨rfl, trivial⟩ (WL.call (wantF rfl g19) rfl rfl (Run.call Tryz.call139 rfl rfl rfl) (k4_ _ _ _ _ _ _) ?_)
  rintro _ whs21 ⟨rfl, hs21⟩
  replace hs21 := hs18.call0 hs21
  refine ⟨_, rfl, WL.runA tbk 1 (Acts.nil.cons (j := 64) rfl g19) hs21 [] rfl trivial (WL.eO 4 Acts.nil J20 hs21 g19 rfl rfl)⟩
 intro _ hs22
 refine WL.nil (WC.cq rfl (fun h23 qh23 => ?_) (fun h23 qh23 => ?_))
 ·have hp2 : scrP2 s.dat = false := by have h9 := h23; unfold scrP2 gridHas within; show ((((decide (0 ≤ s.X) && decide (s.X ≤ s.Main.W - 1)) && (decide (0 ≤ s.Y) && decide (s.Y ≤ s.Main.H - 1))) && ((decide (0 ≤ s.SaveX) && decide (s.SaveX ≤ s.Main.W - 1)) && (decide (0 ≤ s.SaveY) && decide (s.SaveY ≤ s.Main.H - 1)))) && ((!s.Wrap || decide (s.X = s.W - 1)) && (attrOk s.A.Fg s.A.Bg && attrOk s.SaveA.Fg s.SaveA.Bg))) = false; revert h9; cases s.Wrap <;> cases attrOk s.A.Fg s.A.Bg <;> cases attrOk s.SaveA.Fg s.SaveA.Bg <;> intro h9 <;> simp at h9 ⊢ <;> omega
  refine WC.r1 hs22 [] rfl (WC.ret (tkR ?_))
  clear hK11
  refine rtv rfl rfl hs22 ?_
  rw [scrOk_no (.inr (.inl hp2))]
 have hp2 : scrP2 s.dat = true := by have h9 := h23; unfold scrP2 gridHas within; show ((((decide (0 ≤ s.X) && decide (s.X ≤ s.Main.W - 1)) && (decide (0 ≤ s.Y) && decide (s.Y ≤ s.Main.H - 1))) && ((decide (0 ≤ s.SaveX) && decide (s.SaveX ≤ s.Main.W - 1)) && (decide (0 ≤ s.SaveY) && decide (s.SaveY ≤ s.Main.H - 1)))) && ((!s.Wrap || decide (s.X = s.W - 1)) && (attrOk s.A.Fg s.A.Bg && attrOk s.SaveA.Fg s.SaveA.Bg))) = true; revert h9; cases s.Wrap <;> cases attrOk s.A.Fg s.A.Bg <;> cases attrOk s.SaveA.Fg s.SaveA.Bg <;> intro h9 <;> simp at h9 ⊢ <;> omega
 refine WC.skip (hK11 _ _ (WC.seq (fun K24 hK24 => WC.sr (WL.r 4 hs22 [0] rfl (WL.pO tbk 5 Acts.nil hs22 [0, 0] rfl rfl rfl rfl (fun g_ => ⟨rfl, rfl, trivial⟩) (WL.r 1 hs22 [] rfl (WL.pO tbk 5 Acts.nil hs22 [0, 0] rfl rfl rfl rfl (fun g_ => ⟨rfl, rfl, trivial⟩) ?_)))))))
 refine WL.r 1 hs22 [] rfl ?_
 apply WL.gO 10 Acts.nil hs22 rfl
 ·intro g25 J26
  have qg25 := g25
  try simp only [bf, within_iff, within_not] at qg25
  refine WL.runA tbk 6 (Acts.nil.cons (j := 17) rfl g25) hs22 [0, 0] rfl ⟨rfl, rfl, trivial⟩ (WL.pA tbk 3 (Acts.nil.cons (j := 17) rfl g25) hs22 [0] rfl rfl rfl rfl (fun g_ => ⟨rfl, trivial⟩) (WL.eO 7 Acts.nil J26 hs22 g25 rfl rfl))
 intro _ hs27
 refine WL.r 1 hs27 [] rfl (WL.pO tbk 3 Acts.nil hs27 [0] rfl rfl rfl rfl (fun g_ => ⟨rfl, trivial⟩) (WL.r 1 hs27 [] rfl (WL.pO tbk 3 Acts.nil hs27 [0] rfl rfl rfl rfl (fun g_ => ⟨rfl, trivial⟩) (WL.r 1 hs27 [] rfl (WL.pO tbk 6 Acts.nil hs27 [0, 0] rfl rfl rfl rfl (fun g_ => ⟨rfl, rfl, trivial⟩) (WL.nil (WC.cq rfl (fun h28 qh28 => ?_) (fun h28 qh28 => ?_))))))))
 ·have hp34 : scrP3 s.dat = false ∨ scrP4 s.dat = false := by have h9 := h28; unfold scrP3 scrP4 within; show ((decide (0 ≤ s.Top) && decide (s.Top ≤ s.Bot)) && (decide (s.Bot < s.H) && (!decide (s.Top = s.Bot) || decide (s.H = 1)))) = false ∨ ((decide (0 ≤ s.Limit) && decide (s.Limit ≤ 100)) && decide (((s.Back.xs.map RowR.dat).length : Int) ≤ s.Limit)) = false; rw [List.length_map, nl_s_Back]; simp at h9 ⊢; omega
  refine WC.r1 hs27 [] rfl (WC.ret (tkR ?_))
  clear hK24
  refine rtv rfl rfl hs27 ?_
  rw [scrOk_no (.inr (.inr (hp34.elim .inl (fun h => .inr (.inl h)))))]
 have hp34 : scrP3 s.dat = true ∧ scrP4 s.dat = true := by have h9 := h28; unfold scrP3 scrP4 within; show ((decide (0 ≤ s.Top) && decide (s.Top ≤ s.Bot)) && (decide (s.Bot < s.H) && (!decide (s.Top = s.Bot) || decide (s.H = 1)))) = true ∧ ((decide (0 ≤ s.Limit) && decide (s.Limit ≤ 100)) && decide (((s.Back.xs.map RowR.dat).length : Int) ≤ s.Limit)) = true; rw [List.length_map, nl_s_Back]; simp at h9 ⊢; omega
 refine WC.skip (hK24 _ _ (WC.seq (fun K29 hK29 => WC.r1 hs27 [0] rfl (WC.block ?_))))
 refine WC.lS [1, 48, 118, 165, 167, 168] rfl hs27 (fun k_ f w' => ∃ (i : Nat), k_ = s.Tabs.n - i ∧ (i ≤ s.Tabs.n) ∧ (∀ j, j < i → ascAt s.Tabs.xs 0 (s.W - 1) j = true) ∧ Sub [(169, .int .i64 i)] f) ((fun (i : Nat) => s.Tabs.n - i) (0)) ?_ ?_
 ·refine ⟨0, rfl, ?_, ?_, ⟨rfl, trivial⟩⟩
  · exact Nat.zero_le _
  · exact fun j hj => absurd hj (by omega)
 clear hs27
 rintro _ f w ⟨i, rfl, p0, p1, hG⟩ hF hs30
 refine WC.sub _ (hG.app hF) ?_
 clear hG hF
 refine WC.r1 hs30 [] rfl (WC.seq (fun K31 hK31 => ?_))
 refine WC.cq rfl (fun h32 qh32 => ?_) (fun h32 qh32 => ?_)
 ·refine WC.skip (hK31 _ _ (WC.seq (fun K33 hK33 => WC.block (WC.sr (WL.r 1 hs30 [] rfl ?_)))))
  refine WL.val rfl rfl rfl (Run.idxN Tryz.runUnderlying23 Tryz.sizeOf3 rfl rfl rfl ?_ ?_ ?_) ?_
  · exact SlF.some_ (SlF.st0 f_s.Tabs hs30)
  · omega
  · omega
  refine WL.val rfl rfl rfl (Run.load Tryz.isAgg3 rfl rfl (SlF.one1 (SlF.st0 f_s.Tabs hs30) ?_ rfl)) ?_
  · omega
  refine WL.r 2 hs30 [] rfl (WL.nil (WC.sr (WL.r 3 hs30 [] rfl (WL.pO tbk 4 Acts.nil hs30 [0] rfl rfl rfl rfl (fun g_ => ⟨rfl, trivial⟩) (WL.r 1 hs30 [] rfl ?_)))))
  apply WL.gO 12 Acts.nil hs30 rfl
  ·intro g34 J35
   have qg34 := g34
   try simp only [bf, within_iff, within_not] at qg34
   refine WL.runA tbk 3 (Acts.nil.cons (j := 8) rfl g34) hs30 [] rfl trivial ?_
   apply WL.gA 8 (Acts.nil.cons (j := 8) rfl g34) hs30 rfl
   ·intro g36 J37
    have qg36 := g36
    try simp only [bf, within_iff, within_not] at qg36
    refine WL.runA tbk 4 (Acts.nil.cons (j := 11) rfl g36) hs30 [0] rfl ⟨by omega, rfl, trivial⟩ (WL.val (wantT rfl g36) rfl rfl (Run.idxK (i - 1) Tryz.runUnderlying23 Tryz.sizeOf3 rfl rfl rfl ?_ ?_ ?_) ?_)
    · exact SlF.some_ (SlF.st0 f_s.Tabs hs30)
    · omega
    · omega
    refine WL.val (wantT rfl g36) rfl rfl (Run.load Tryz.isAgg3 rfl rfl (SlF.one1 (SlF.st0 f_s.Tabs hs30) ?_ rfl)) ?_
    · omega
    refine WL.runA tbk 2 (Acts.nil.cons (j := 11) rfl g36) hs30 [] rfl trivial (WL.eA 8 (Acts.nil.cons (j := 8) rfl g34) J37 hs30 g36 rfl rfl)
   intro _ hs38
   exact WL.eO 4 Acts.nil J35 hs38 g34 rfl rfl
  intro _ hs39
  refine WL.nil (WC.cq rfl (fun h40 qh40 => ?_) (fun h40 qh40 => ?_))
  ·have ha : ascAt s.Tabs.xs 0 (s.W - 1) i = false := by unfold ascAt within iat; have h9 := h40; simp at h9 ⊢; omega
   refine WC.r1 hs39 [] rfl (WC.ret (ibR (tkR (tkR (ibR (tkR ?_))))))
   clear hK33 hK29
   refine rtv rfl rfl hs39 ?_
   rw [scrOk_no (.inr (.inr (.inr (.inr (.inl (isAsc_not (i := i) (by show i < s.Tabs.xs.length; omega) ha))))))]
  have ha : ascAt s.Tabs.xs 0 (s.W - 1) i = true := by unfold ascAt within iat; have h9 := h40; simp at h9 ⊢; omega
  refine WC.skip (hK33 _ _ (WC.region (WL.r 2 hs39 [] rfl (WL.nil (tkN ?_)))))
  refine ⟨sbF rfl, hs39, _, ?_, i + 1, rfl, ?_, ?_, ⟨rfl, trivial⟩⟩
  · omega
  · omega
  · intro j hj; rcases Nat.lt_or_ge j i with h_ | h_
    · exact p1 j h_
    · obtain rfl : j = i := by omega
      exact ha
 have hasc : isAsc s.dat.Tabs 0 (s.dat.W - 1) = true := isAsc_all (fun j hj => p1 j (by have : j < s.Tabs.xs.length := hj; omega))
 refine WC.exit (hK29 _ _ (WC.seq (fun K41 hK41 => WC.r1 hs30 [0] rfl (WC.block ?_))))
 refine WC.lS [48, 118, 165, 170, 198, 199] rfl hs30 (fun k_ f w' => ∃ (i : Nat), k_ = s.Back.n - i ∧ (i ≤ s.Back.n) ∧ (∀ j, j < i → rowOk (RowR.dat (gat encRowR s.Back.xs j)) = true) ∧ Sub [(200, .int .i64 i)] f) ((fun (i : Nat) => s.Back.n - i) (0)) ?_ ?_
 ·refine ⟨0, rfl, ?_, ?_, ⟨rfl, trivial⟩⟩
  · exact Nat.zero_le _
  · exact fun j hj => absurd hj (by omega)
 clear hs30
 rintro _ f w ⟨i, rfl, r0, r1, hG⟩ hF hs42
 refine WC.sub _ (hG.app hF) ?_
 clear hG hF
 refine WC.r1 hs42 [] rfl (WC.seq (fun K43 hK43 => ?_))
 refine WC.cq rfl (fun h44 qh44 => ?_) (fun h44 qh44 => ?_)
 ·refine WC.skip (hK43 _ _ (WC.seq (fun K45 hK45 => WC.block (WC.sr ?_))))
  refine WL.val rfl rfl rfl (Run.idxN Tryz.runUnderlying31 Tryz.sizeOf98 rfl rfl rfl ?_ ?_ ?_) ?_
  · exact SlF.some_ (SlF.st0 f_s.Back.sl hs42)
  · omega
  · omega
  refine WL.val rfl rfl rfl (Run.loadA Tryz.isAgg98 Tryz.sizeOf98 rfl rfl (SlF.whole (SlF.st0 f_s.Back.sl hs42) ?_)) ?_
  · omega
  refine WL.al hs42 Tryz.zeroValue98 rfl rfl (fun b46 _ hs47 => WL.st tbk hs47 0 rfl rfl (fun _ hs48 => WL.nil (WC.sr (WL.r 1 hs48 [0] rfl (WL.cl Tryz.call140 rfl (k29_ (gat encRowR s.Back.xs i) _ (okRowR.st0 (SlN.nth f_s.Back (by omega)) hs48)) ?_)))))
  rintro _ whs49 ⟨rfl, hs49⟩
  replace hs49 := hs48.call0 hs49
  refine ⟨_, rfl, WL.r 1 hs49 [] rfl (WL.nil (WC.cq rfl (fun h50 qh50 => ?_) (fun h50 qh50 => ?_)))⟩
  ·refine WC.r1 hs49 [] rfl (WC.ret (ibR (tkR (tkR (ibR (tkR ?_))))))
   clear hK45 hK41
   refine rtv rfl rfl hs49 ?_
   rw [scrOk_no (.inr (.inr (.inr (.inr (.inr (all_gat_not (F := encRowR) (j := i) (by omega) (by simpa using h50)))))))]
  refine WC.skip (hK45 _ _ (WC.region (WL.r 2 hs49 [] rfl (WL.nil (tkN ?_)))))
  refine ⟨sbF rfl, (hs49.drop (by repeat (first | exact List.Sublist.refl _ | exact List.sublist_append_left _ _ | exact List.Sublist.trans (List.sublist_append_left _ _) (List.sublist_append_left _ _) | apply List.Sublist.cons | refine List.Sublist.trans ?_ (sR _)))), _, ?_, i + 1, rfl, ?_, ?_, ⟨rfl, trivial⟩⟩
  · omega
  · omega
  · intro j hj; rcases Nat.lt_or_ge j i with h_ | h_
    · exact r1 j h_
    · obtain rfl : j = i := by omega
      simpa using h50
 refine WC.exit (hK41 _ _ (WC.r1 hs42 [] rfl (WC.ret (rtv rfl rfl hs42 ?_))))
 rw [scrOk_all hp1 hp2 hp34.1 hp34.2 hasc (all_gat (F := encRowR) (fun j hj => r1 j (by omega)))]
theorem built_98_0 (x0 : Option Addr) (x1 : Nat) (x2 : Nat) : Tryz.prog.built 98 [(0, .slice x0 x1 x2)] = some (List.toArray [.slice x0 x1 x2]) := by kernel_rfl
theorem k31_ (s : ScrR) (w : World) (f_s : okScrR 549755813888 w s) (hsm : smScr 1048576 s.dat) :
    Calls Tryz.prog 64 #[.agg (cScr s).toArray] w fun e w' => ∃ r L1, e = .returned (.agg (cScr r).toArray) ∧ St w [] L1 w' ∧ ownScrR r L1 ∧ r.dat = s.dat := by
 have nb_s_Main_Cells := f_s.Main.Cells_n
 have nl_s_Main_Cells := f_s.Main.Cells.len
 have nb_s_Alt_Cells := f_s.Alt.Cells_n
 have nl_s_Alt_Cells := f_s.Alt.Cells.len
 have nb_s_Tabs := f_s.Tabs_n
 have nl_s_Tabs := f_s.Tabs.len
 have nb_s_Back := f_s.Back_n
 have nl_s_Back := f_s.Back.sl.len
 have hM : s.Main.Cells.xs.length ≤ 1048576 := hsm.1
 have hA : s.Alt.Cells.xs.length ≤ 1048576 := hsm.2.1
 have hT : s.Tabs.xs.length ≤ 1048576 := hsm.2.2.1
 have hB : s.Back.xs.length ≤ 1048576 := by have h_ := hsm.2.2.2.1; simpa [ScrR.dat] using h_
 have hR : ∀ y, y ∈ s.Back.xs → y.Cells.xs.length ≤ 1048576 := fun y hy => hsm.2.2.2.2 _ (List.mem_map_of_mem hy)
 refine enter 39 Tryz.func64 rfl Tryz.ntmps64 rfl rfl ?_
 have hs1 := St.init w
 refine WC.sr (WL.bx hs1 rfl (fun b2 _ hs3 => WL.al hs3 Tryz.zeroValue33 rfl rfl (fun b4 _ hs5 => WL.nil (WC.sr (WL.r 2 hs5 [1] rfl ?_)))))
 refine WL.cl Tryz.call141 rfl (k16_ s.Main _ (okGridR.st0 f_s.Main hs5) ?_) ?_
 · first | assumption | rfl | omega | exact hsm.1 | exact hsm.2.1 | (exact Nat.le_trans hsm.1 (by decide)) | (exact Nat.le_trans hsm.2.1 (by decide)) | (have := hR _ (gat_mem (F := encRowR) (show i < s.Back.xs.length by omega)); omega)
 rintro _ whs6 ⟨r7, L1_8, rfl, hs6, ho9, hd10⟩
 replace hs6 := hs5.callF hs6
 refine ⟨_, rfl, ?_⟩
 replace hs6 := St.back [_, _] hs6
 refine WL.r 1 hs6 [] rfl (WL.st tbk hs6 1 rfl rfl (fun _ hs11 => WL.nil (WC.sr (WL.r 2 hs11 [1] rfl ?_))))
 refine WL.cl Tryz.call141 rfl (k16_ s.Alt _ (okGridR.st0 f_s.Alt hs11) ?_) ?_
 · first | assumption | rfl | omega | exact hsm.1 | exact hsm.2.1 | (exact Nat.le_trans hsm.1 (by decide)) | (exact Nat.le_trans hsm.2.1 (by decide)) | (have := hR _ (gat_mem (F := encRowR) (show i < s.Back.xs.length by omega)); omega)
 rintro _ whs12 ⟨r13, L1_14, rfl, hs12, ho15, hd16⟩
 replace hs12 := hs11.callF hs12
 refine ⟨_, rfl, ?_⟩
 replace hs12 := St.back [_, _] hs12
 refine WL.r 1 hs12 [] rfl (WL.st tbk hs12 1 rfl rfl (fun _ hs17 => WL.nil (WC.sr (WL.buildF (F := encI) hs17 ([]) Tryz.runUnderlying23 Tryz.sizeOf3 Tryz.zeroValue3 rfl rfl rfl rfl rfl rfl rfl rfl rfl rfl rfl rfl (fun A21 c22 L18 whs19 hs19 ho20 => ?_)))))
 replace hs19 := St.back [_, _] hs19
 refine WL.r 2 hs19 [1] rfl (WL.appendG (hs19.fr L18) ho20 (SlF.src (SlF.st0 f_s.Tabs hs19) Tryz.underlying23) Tryz.underlying23 inf3 rfl rfl rfl rfl rfl rfl rfl rfl rfl rfl ?_ (fun A26 c27 L23 whs24 hs24 ho25 => ?_))
 · (try simp only [List.length_append, List.length_singleton, List.nil_append, List.length_nil]); first | omega | (have := hR _ (gat_mem (F := encRowR) (show i < s.Back.xs.length by omega)); omega)
 replace hs24 := St.back [_, _] hs24
 refine WL.r 1 hs24 [] rfl (WL.st tbk hs24 1 rfl rfl (fun _ hs28 => WL.nil (WC.sr (WL.buildF (F := encRowR) hs28 ([]) Tryz.runUnderlying31 Tryz.sizeOf98 Tryz.zeroValue98 rfl rfl rfl rfl rfl rfl rfl rfl rfl rfl rfl rfl (fun A32 c33 L29 whs30 hs30 ho31 => ?_)))))
 replace hs30 := St.back [_, _] hs30
 obtain ⟨L34, hs35, ho36⟩ := OwnN.fresh (own := ownRowR) (hs30.fr L29) ho31 Bag.nil
 have hs37 := ((hs35.fb b2).fb b4)
 refine WL.r 1 hs37 [] rfl (WL.nil (WC.seq (fun K38 hK38 => WC.r1 hs37 [1] rfl (WC.block ?_))))
 have hM43 := (St.grp1 (L1 := L34) [] ((((((hs37.fr L1_8).fr L1_14).fr L23).fb b2).fb b4).fr L34))
 refine WC.lV [1, 2, 21, 22] rfl hM43 (fun k_ (a_ : Hp) f => ∃ (i : Nat) (rows_ : List RowR) (A39 : Option Addr) (c40 : Nat) (L41 : Hp), k_ = s.Back.n - i ∧ a_ = L41 ∧ (i ≤ s.Back.n) ∧ (rows_.map RowR.dat = (s.Back.xs.take i).map RowR.dat) ∧ (rows_.length = i) ∧ OwnN encRowR ownRowR 98 (.slice A39 (rows_).length c40) (rows_) L41 ∧ Sub [(3, .slice A39 (rows_).length c40), (23, .int .i64 i)] f) (((fun (i : Nat) (rows_ : List RowR) => s.Back.n - i) (0) ([]))) ?_ ?_
 ·refine ⟨0, [], A32, c33, L34, rfl, rfl, ?_, ?_, ?_, ho36, ⟨rfl, rfl, trivial⟩⟩
  · exact Nat.zero_le _
  · rfl
  · rfl
 rintro _ L41 f w ⟨i, rows_, A39, c40, _, rfl, rfl, p0, p1, p2, ho42, hG⟩ hF hs44
 refine WC.sub _ (hG.app hF) ?_
 clear hG hF
 replace hs44 := St.ungrp1 [] hs44
 have hs45 := ((hs44.fb b2).fb b4)
 refine WC.r1 hs45 [] rfl (WC.seq (fun K46 hK46 => ?_))
 refine WC.cD rfl (fun qh47 => ?_) (fun qh47 => ?_)
 ·have hnl := (SlN.nth f_s.Back (show i < s.Back.n by omega)).Cells.len
  refine WC.skip (hK46 _ _ (WC.seq (fun K48 hK48 => WC.block (WC.sr ?_))))
  refine WL.val rfl rfl rfl (Run.idxN Tryz.runUnderlying31 Tryz.sizeOf98 rfl rfl rfl ?_ ?_ ?_) ?_
  · exact SlF.some_ (SlF.st0 f_s.Back.sl hs45)
  · omega
  · omega
  refine WL.val rfl rfl rfl (Run.loadA Tryz.isAgg98 Tryz.sizeOf98 rfl rfl (SlF.whole (SlF.st0 f_s.Back.sl hs45) ?_)) ?_
  · omega
  refine WL.al hs45 Tryz.zeroValue98 rfl rfl (fun b49 _ hs50 => WL.st tbk hs50 0 rfl rfl (fun _ hs51 => WL.nil (WC.region (WL.r 1 hs51 [] rfl (WL.buildF (F := encCell) hs51 ([]) Tryz.runUnderlying26 Tryz.sizeOf75 Tryz.zeroValue75 rfl rfl rfl rfl rfl rfl rfl rfl rfl rfl rfl rfl (fun A55 c56 L52 whs53 hs53 ho54 => ?_))))))
  replace hs53 := St.back [_, _, _] hs53
  refine WL.r 2 hs53 [0] rfl (WL.appendG (hs53.fr L52) ho54 (SlF.src (SlF.st0 (SlN.nth f_s.Back (by omega)).Cells hs53) Tryz.underlying26) Tryz.underlying26 inf75 rfl rfl rfl rfl rfl rfl rfl rfl rfl rfl ?_ (fun A60 c61 L57 whs58 hs58 ho59 => ?_))
  · (try simp only [List.length_append, List.length_singleton, List.nil_append, List.length_nil]); first | omega | (have := hR _ (gat_mem (F := encRowR) (show i < s.Back.xs.length by omega)); omega)
  replace hs58 := St.back [_, _, _] hs58
  refine WL.val rfl rfl rfl (Run.build rfl rfl rfl rfl (built_98_0 _ _ _)) (WL.buildSlice hs58 Tryz.runUnderlying31 Tryz.sizeOf98 Tryz.zeroValue98 rfl rfl rfl rfl rfl rfl rfl rfl rfl rfl (fun b62 whs63 hs63 => ?_))
  obtain ⟨L64, L65, hs68, ho66, ho67⟩ := OwnN.open_ (hs63.fr L41) ho42
  have hs69 := ((((hs68.fb b2).fb b4).fb b49).fb b62)
  refine WL.appendG (hs69.fr L64) ho66 (srcF (F := encRowR) (ys := [(⟨SlD.of ho59⟩ : RowR)]) Tryz.underlying31 rfl rfl (hs69.own _ (nthL_mem (i := 0) rfl)).1) Tryz.underlying31 inf98 rfl rfl rfl rfl rfl rfl rfl rfl rfl rfl ?_ (fun A73 c74 L70 whs71 hs71 ho72 => ?_)
  · (try simp only [List.length_append, List.length_singleton, List.nil_append, List.length_nil]); first | omega | (have := hR _ (gat_mem (F := encRowR) (show i < s.Back.xs.length by omega)); omega)
  replace hs71 := St.back [_, _, _, _] hs71
  obtain ⟨L75, hs76, hb77⟩ := Bag.put (x := (⟨SlD.of ho59⟩ : RowR)) ((hs71.fr L57).fr L65) ho67 ho59
  have hs78 := ((((hs76.fb b2).fb b4).fb b49).fb b62)
  obtain ⟨L80, hs79, ho81⟩ := OwnN.fold ((hs78.fr L75).fr L70) ho72 hb77
  have hs82 := ((((hs79.fb b2).fb b4).fb b49).fb b62)
  refine WL.r 1 hs82 [] rfl (WL.nil (hK48 _ _ (WC.region (WL.r 2 hs82 [] rfl (WL.nil (tkN ?_))))))
  replace hs82 := hs82.d1.d1
  have hF83 := (St.grp1 (L1 := L80) [] ((((((hs82.fr L1_8).fr L1_14).fr L23).fb b2).fb b4).fr L80))
  refine ⟨sbF rfl, _, hF83, _, ?_, i + 1, ((rows_) ++ [(⟨SlD.of ho59⟩ : RowR)]), A73, c74, L80, rfl, rfl, ?_, ?_, ?_, ho81, ⟨rfl, rfl, trivial⟩⟩
  · omega
  · omega
  · rw [List.map_append, p1, map_take_succ (F := encRowR) (by omega)]; congr 1
  · simp only [List.length_append, List.length_singleton]; omega
 refine WC.exit (hK38 _ _ (WC.sr (WL.r 2 hs45 [] rfl (WL.st tbk hs45 1 rfl rfl (fun _ hs84 => WL.nil (WC.sr (WL.r 1 hs84 [1] rfl ?_)))))))
 refine WL.st tbk hs84 0 rfl rfl (fun _ hs85 => WL.nil (WC.ret (retV1 rfl (resV.cellA tbk hs85 0 rfl rfl rfl rfl) ?_)))
 have hi_ : i = s.Back.n := by omega
 have hbk : rows_.map RowR.dat = s.dat.Back := by rw [p1, List.take_of_length_le (by omega)]; rfl
 obtain ⟨L87, hs86, ho88⟩ := ownScrR.fl hs85 ho9 ho15 ho25 ho42
 have hs89 := ((hs86.fb b2).fb b4)
 refine ownScrR.ret rfl (St.keep1 (hs89.fr L87)) ho88 ?_
 · exact ScrD.ext' rfl rfl hd10 hd16 rfl rfl rfl rfl rfl rfl rfl rfl rfl rfl rfl rfl rfl rfl hbk
theorem dm_uniq {a b r c w : Nat} (hb : b < w) (hc : c < w) (h : a * w + b = r * w + c) : a = r ∧ b = c := by
 have key : ∀ p q : Nat, q < w → (p * w + q) / w = p := fun p q hq => by
  rw [Nat.mul_comm, Nat.mul_add_div (by omega), Nat.div_eq_of_lt hq, Nat.add_zero]
 have h1 := key a b hb
 rw [h, key r c hc] at h1
 subst h1
 exact ⟨rfl, by omega⟩
theorem dm_at {k w a b : Nat} (hb : b < w) : (k / w = a ∧ k % w = b) ↔ k = a * w + b := by
 have h := Nat.div_add_mod k w
 rw [Nat.mul_comm] at h
 constructor
 ·rintro ⟨h1, h2⟩
  rw [← h1, ← h2]; exact h.symm
 ·intro h1
  exact dm_uniq (Nat.mod_lt _ (by omega)) hb (h.trans h1)
def pasteIn (g h : GridD) (x y : Int) (k : Nat) : Prop :=
 (0 ≤ ((k % g.W.toNat : Nat) : Int) - x ∧ ((k % g.W.toNat : Nat) : Int) - x < h.W) ∧ 0 ≤ ((k / g.W.toNat : Nat) : Int) - y ∧ ((k / g.W.toNat : Nat) : Int) - y < h.H
instance (g h : GridD) (x y : Int) (k : Nat) : Decidable (pasteIn g h x y k) := by unfold pasteIn; infer_instance
theorem divmod_ex {i : Nat} {w h : Int} (hw : 1 ≤ w) (hh : 1 ≤ h) (hi : (i : Int) < w * h) : ∃ q m : Nat, (i : Int) / w = q ∧ (i : Int) % w = m ∧ i = q * w.toNat + m ∧ (m : Int) < w ∧ (q : Int) < h := by
 have hm := Nat.mod_lt i (show 0 < w.toNat by omega)
 have e := Nat.div_add_mod i w.toNat
 rw [Nat.mul_comm] at e
 have ew : w = (w.toNat : Int) := by omega
 have eh : h = (h.toNat : Int) := by omega
 have hd : i / w.toNat < h.toNat := Nat.div_lt_of_lt_mul (by rw [ew, eh] at hi; exact_mod_cast hi)
 refine ⟨i / w.toNat, i % w.toNat, ?_, ?_, e.symm, by omega, by omega⟩
 ·rw [Int.natCast_ediv, ← ew]
 ·rw [Int.natCast_emod, ← ew]
theorem gat_set2 {α : Type} {F : Enc α} {xs : List α} {i k : Nat} {v : α} (hi : i < xs.length) : gat F (xs.set i v) k = if k = i then v else gat F xs k := by
 unfold gat
 rw [List.getD_eq_getElem?_getD, List.getD_eq_getElem?_getD, List.getElem?_set]
 by_cases h : i = k
 ·subst h; simp [hi]
 ·rw [if_neg h, if_neg (Ne.symm h)]
theorem toNat_mul_nat {a : Nat} {b : Int} (hb : 0 ≤ b) : ((a : Int) * b).toNat = a * b.toNat := by
 rw [Int.toNat_mul (by omega) hb]; rfl
def rowAt (g : GridD) (y : Nat) : RowD := ⟨(g.Cells.drop (y * g.W.toNat)).take g.W.toNat⟩
def lastN {α : Type} (n : Nat) (l : List α) : List α := l.drop (l.length - n)
theorem lastN_len {α : Type} {n : Nat} {l : List α} : (lastN n l).length = min l.length n := by simp [lastN]; omega
theorem lastN_all {α : Type} {n : Nat} {l : List α} (h : l.length ≤ n) : lastN n l = l := by
 unfold lastN; rw [show l.length - n = 0 by omega]; rfl
theorem lastN_snoc {α : Type} {n : Nat} {l : List α} {x : α} : lastN n (lastN n l ++ [x]) = lastN n (l ++ [x]) := by
 unfold lastN
 simp only [List.length_append, List.length_drop, List.length_singleton]
 rcases Nat.lt_or_ge n l.length with h | h
 ·rw [List.drop_append, List.drop_append, List.drop_drop, List.length_drop]
  congr 2 <;> omega
 ·rw [show l.length - n = 0 by omega]
  simp
def keepRows (s : ScrD) (n : Nat) : ScrD := { s with Back := lastN s.Limit.toNat (s.Back ++ (List.range n).map (rowAt s.Main)) }
theorem range_snoc {α : Type} {f : Nat → α} {n : Nat} : (List.range (n + 1)).map f = (List.range n).map f ++ [f n] := by
 rw [List.range_succ, List.map_append]; rfl
theorem keepRows_succ {s : ScrD} {n : Nat} : keepRows s (n + 1) = { keepRows s n with Back := lastN s.Limit.toNat ((keepRows s n).Back ++ [rowAt s.Main n]) } := by
 unfold keepRows
 rw [range_snoc, ← List.append_assoc, ← lastN_snoc]
theorem keepRows_zero {s : ScrD} (h : (s.Back.length : Int) ≤ s.Limit) : keepRows s 0 = s := by
 unfold keepRows
 rw [show (List.range 0).map (rowAt s.Main) = [] from rfl, List.append_nil, lastN_all (by omega)]
theorem k32_ (n : Int) (w : World) :
    Calls Tryz.prog 230 #[i64 n] w fun e w' => e = .returned (.bool (within n (-100000) 100000)) ∧ St w [] [] w' := by
 refine enter 9 Tryz.func230 rfl Tryz.ntmps230 rfl rfl ?_
 have hs1 := St.init w
 refine WC.r1 hs1 [] rfl (WC.sr (WL.r 3 hs1 [] rfl (WL.pA tbk 2 Acts.nil hs1 [] rfl rfl rfl rfl (fun g_ => trivial) (WL.r 1 hs1 [] rfl (WL.nil (WC.ret (retV1 rfl (resV.tmp rfl) ?_)))))))
 refine ⟨congrArg Ending.returned ?_, hs1.nil⟩
 rfl
theorem k33_ (n hi : Int) (w : World) :
    Calls Tryz.prog 218 #[i64 n, i64 hi] w fun e w' => e = .returned (.int .i64 (if n < 0 then 0 else min n hi)) ∧ St w [] [] w' := by
 refine enter 12 Tryz.func218 rfl Tryz.ntmps218 rfl rfl ?_
 have hs1 := St.init w
 refine WC.r1 hs1 [] rfl (WC.seq (fun K2 hK2 => WC.r1 hs1 [] rfl ?_))
 refine WC.cD rfl (fun qh3 => ?_) (fun qh3 => ?_)
 ·refine WC.r1 hs1 [] rfl (WC.ret (tkR ?_))
  clear hK2
  refine rtv rfl rfl hs1 ?_
  congr 1; (repeat' split) <;> omega
 refine WC.skip (hK2 _ _ (WC.seq (fun K4 hK4 => WC.r1 hs1 [] rfl ?_)))
 refine WC.cD rfl (fun qh5 => ?_) (fun qh5 => ?_)
 ·refine WC.r1 hs1 [] rfl (WC.ret (tkR ?_))
  clear hK4
  refine rtv rfl rfl hs1 ?_
  congr 1; (repeat' split) <;> omega
 refine WC.skip (hK4 _ _ (WC.r1 hs1 [] rfl (WC.ret (rtv rfl rfl hs1 ?_))))
 congr 1; (repeat' split) <;> omega
theorem smScr_mono {B B' : Nat} {s : ScrD} (h : smScr B s) (hB : B ≤ B') : smScr B' s := ⟨Nat.le_trans h.1 hB, Nat.le_trans h.2.1 hB, Nat.le_trans h.2.2.1 hB, Nat.le_trans h.2.2.2.1 hB, fun y hy => Nat.le_trans (h.2.2.2.2 y hy) hB⟩
theorem rowAt_len {g : GridD} {i : Nat} : (rowAt g i).Cells.length ≤ g.W.toNat := by
 unfold rowAt
 rw [List.length_take]
 exact Nat.min_le_left _ _
theorem keepRows_sm {s : ScrD} {n B : Nat} (h : smScr B s) (hg : gridOk s.Main = true) (hB : 120 ≤ B) (hl : s.Limit.toNat ≤ B) : smScr B (keepRows s n) := by
 refine ⟨h.1, h.2.1, h.2.2.1, by simp only [keepRows]; rw [lastN_len]; omega, fun y hy => ?_⟩
 have hy' := List.mem_of_mem_drop hy
 rcases List.mem_append.1 hy' with hy | hy
 ·exact h.2.2.2.2 y hy
 ·obtain ⟨i, _, rfl⟩ := List.mem_map.1 hy
  have h1 := gridOk_bnd hg
  exact Nat.le_trans rowAt_len (by omega)
theorem ownScrR.lens {r : ScrR} {L : Hp} (h : ownScrR r L) : (r.Main.Cells.xs.length = r.Main.Cells.n ∧ r.Main.Cells.n ≤ r.Main.Cells.c) ∧ (r.Alt.Cells.xs.length = r.Alt.Cells.n ∧ r.Alt.Cells.n ≤ r.Alt.Cells.c) ∧ (r.Tabs.xs.length = r.Tabs.n ∧ r.Tabs.n ≤ r.Tabs.c) ∧ (r.Back.xs.length = r.Back.n ∧ r.Back.n ≤ r.Back.c) := by
 obtain ⟨L1, L2, L3, L4, rfl, o1, o2, o3, o4⟩ := h
 exact ⟨⟨OwnF.len_ o1, OwnF.cap o1⟩, ⟨OwnF.len_ o2, OwnF.cap o2⟩, ⟨OwnF.len_ o3, OwnF.cap o3⟩, ⟨OwnN.len_ o4, OwnN.cap o4⟩⟩
def keepOne (s : ScrD) (y : Nat) : ScrD := { s with Back := lastN s.Limit.toNat (s.Back ++ [rowAt s.Main y]) }
theorem keepOne_succ {s : ScrD} {n : Nat} : keepOne (keepRows s n) n = keepRows s (n + 1) := keepRows_succ.symm
theorem keepOne_drop {s : ScrD} {y k : Nat} (hk : k = s.Back.length + 1 - s.Limit.toNat) : { s with Back := (s.Back ++ [rowAt s.Main y]).drop k } = keepOne s y := by
 unfold keepOne lastN
 rw [hk, List.length_append]; rfl
theorem keepOne_all {s : ScrD} {y : Nat} (hk : s.Back.length + 1 ≤ s.Limit.toNat) : { s with Back := s.Back ++ [rowAt s.Main y] } = keepOne s y := by
 unfold keepOne
 rw [lastN_all (by rw [List.length_append]; exact hk)]
theorem gridFit_ok {g : GridD} {w h : Int} (hf : gridFit g w h = true) : gridOk g = true := by
 unfold gridFit at hf
 rw [Bool.and_eq_true] at hf
 exact hf.1
theorem scrOk_P {s : ScrD} (h : scrOk s = true) : scrP1 s = true ∧ scrP2 s = true ∧ scrP3 s = true ∧ scrP4 s = true ∧ isAsc s.Tabs 0 (s.W - 1) = true ∧ s.Back.all rowOk = true := by
 unfold scrOk scrIn at h
 simp only [Bool.and_eq_true] at h
 exact ⟨h.1.1.1.1, h.1.1.1.2, h.1.1.2.1, h.1.1.2.2, h.1.2, h.2⟩
theorem scrOk_main {s : ScrD} (h : scrOk s = true) : gridOk s.Main = true ∧ gridOk s.Alt = true := by
 have h1 := (scrOk_P h).1
 unfold scrP1 at h1
 rw [Bool.and_eq_true] at h1
 exact ⟨gridFit_ok h1.1, gridFit_ok h1.2⟩
theorem scrOk_bnd {s : ScrD} (h : scrOk s = true) : ((1 ≤ s.W ∧ s.W ≤ 120) ∧ (1 ≤ s.H ∧ s.H ≤ 120) ∧ s.Main.W = s.W ∧ s.Main.H = s.H ∧ s.Alt.W = s.W ∧ s.Alt.H = s.H) ∧ ((0 ≤ s.X ∧ s.X < s.W) ∧ 0 ≤ s.Y ∧ s.Y < s.H) ∧ ((0 ≤ s.SaveX ∧ s.SaveX < s.W) ∧ 0 ≤ s.SaveY ∧ s.SaveY < s.H) ∧ (0 ≤ s.Top ∧ s.Top ≤ s.Bot ∧ s.Bot < s.H) ∧ (0 ≤ s.Limit ∧ s.Limit ≤ 100) ∧ (s.Back.length : Int) ≤ s.Limit := by
 obtain ⟨h1, h2, h3, h4, _, _⟩ := scrOk_P h
 have b := scrP1_bnd h1
 unfold scrP2 gridHas at h2
 unfold scrP3 at h3
 unfold scrP4 at h4
 simp only [Bool.and_eq_true, within_iff, decide_eq_true_eq] at h2 h3 h4
 omega
theorem gridOk_new {w h : Int} (hs : isSize w h = true) : gridOk (gridNew w h) = true := by
 obtain ⟨h1, h2, h3, h4⟩ := isSize_bnd hs
 unfold gridOk
 rw [Bool.and_eq_true, Bool.and_eq_true]
 refine ⟨⟨hs, ?_⟩, ?_⟩
 ·rw [decide_eq_true_eq]
  show ((List.replicate (w * h).toNat blankC).length : Int) = w * h
  rw [List.length_replicate]; omega
 ·show cellsOk (List.replicate (w * h).toNat blankC) = true
  unfold cellsOk
  rw [List.all_eq_true]
  intro x hx
  rw [List.mem_replicate] at hx
  rw [hx.2]; decide
theorem tots_le {l : List RowD} {k : Nat} (h : ∀ y, y ∈ l → y.Cells.length ≤ k) : tots totRow l ≤ l.length * (k + 1) := by
 unfold tots
 have : (l.map totRow).sum ≤ l.length * k := by
  induction l with
  | nil => simp
  | cons y r ih =>
   have h1 := ih (fun z hz => h z (List.mem_cons_of_mem _ hz))
   have h2 := h y List.mem_cons_self
   simp only [List.map_cons, List.sum_cons, List.length_cons, totRow, Nat.add_mul]
   omega
 rw [Nat.mul_add]
 omega
theorem rowOk_len {r : RowD} (h : rowOk r = true) : r.Cells.length ≤ 120 := by
 unfold rowOk at h
 rw [Bool.and_eq_true, within_iff] at h
 omega
theorem back_bnd {b : List RowD} {l : Int} (h : ∀ y, y ∈ b → y.Cells.length ≤ 120) (hl : (b.length : Int) ≤ l) (h2 : l ≤ 100) : tots totRow b ≤ 12100 := by
 have h1 := tots_le h
 have h3 : b.length * 121 ≤ 100 * 121 := Nat.mul_le_mul_right _ (by omega)
 omega
theorem scrOk_back {s : ScrD} (h : scrOk s = true) : ∀ y, y ∈ s.Back → y.Cells.length ≤ 120 := by
 have := (scrOk_P h).2.2.2.2.2
 rw [List.all_eq_true] at this
 exact fun y hy => rowOk_len (this y hy)
theorem smTerm_mono {B B' : Nat} {t : TermD} (h : smTerm B t) (hB : B ≤ B') : smTerm B' t := ⟨⟨Nat.le_trans h.1.1 hB, Nat.le_trans h.1.2 hB⟩, smScr_mono h.2 hB⟩
def partI (l : List UInt8) : List Int := l.map fun b => (b.toNat : Int)
theorem partI_take {l : List UInt8} {i : Nat} (h : i < l.length) : partI (l.take (i + 1)) = partI (l.take i) ++ [((gat encB l i).toNat : Int)] := by
 unfold partI
 rw [List.take_add_one, gat_get (F := encB) h, List.map_append]
 rfl
theorem numsL_append (a b : List Int) : numsL (a ++ b) = numsL a ++ numsL b := by unfold numsL; rw [List.flatMap_append]
theorem numsL_one (x : Int) : numsL [x] = varL x.toNat := by simp [numsL]
def bitI (b : Bool) (k : Int) : Int := if b = true then k else 0
theorem bitI_bnd {b : Bool} {k : Int} (h : 0 ≤ k) : 0 ≤ bitI b k ∧ bitI b k ≤ k := by unfold bitI; split <;> omega
def flagsI (a b c d e : Bool) : Int := bitI a 1 + bitI b 2 + bitI c 4 + bitI d 8 + bitI e 16
def flagsL (l : List Bool) : Int := l.foldr (fun b r => r * 2 + bitI b 1) 0
theorem flagsL_bnd : ∀ l : List Bool, 0 ≤ flagsL l ∧ flagsL l + 1 ≤ 2 ^ l.length
 | [] => by simp [flagsL]
 | b :: r => by
  have h := flagsL_bnd r
  have h1 : 0 ≤ bitI b 1 ∧ bitI b 1 ≤ 1 := bitI_bnd (by decide)
  have e : flagsL (b :: r) = flagsL r * 2 + bitI b 1 := rfl
  rw [e, List.length_cons, Int.pow_succ]
  omega
theorem flagsL_le {l : List Bool} (h : l.length ≤ 5) : 0 ≤ flagsL l ∧ flagsL l ≤ 31 := by
 have h1 := flagsL_bnd l
 have h2 : l.length = 0 ∨ l.length = 1 ∨ l.length = 2 ∨ l.length = 3 ∨ l.length = 4 ∨ l.length = 5 := by omega
 rcases h2 with h2 | h2 | h2 | h2 | h2 | h2 <;> rw [h2] at h1 <;> omega
theorem flagsL_drop {l : List Bool} {i : Nat} (h : i < l.length) : flagsL (l.drop i) = flagsL (l.drop (i + 1)) * 2 + bitI (gat encT l i) 1 := by
 rw [List.drop_eq_getElem_cons h]
 have e : gat encT l i = l[i] := by have := gat_get (F := encT) h; rw [List.getElem?_eq_getElem h] at this; exact (Option.some.inj this).symm
 rw [e]; rfl
theorem flagsL_5 (a b c d e : Bool) : flagsL [a, b, c, d, e] = flagsI a b c d e := by
 cases a <;> cases b <;> cases c <;> cases d <;> cases e <;> rfl
theorem attrNum_bnd {a : AttrD} (h : attrOk a.Fg a.Bg = true) : 0 ≤ attrNum a ∧ attrNum a ≤ 647 := by
 have := cellOk_bounds (c := ⟨32, a⟩) (by unfold cellOk; rw [h]; rfl)
 exact this.2.2.2
def headL (t : TermD) : List Int := [t.S.W, t.S.H, flagsI t.S.OnAlt t.S.Wrap t.S.NoWrap t.S.Hide t.P.Mark, t.S.X, t.S.Y, attrNum t.S.A, t.S.Top, t.S.Bot, t.S.SaveX, t.S.SaveY, attrNum t.S.SaveA, t.S.Limit, t.P.State]
def rowsL (b : List RowD) : List UInt8 := b.flatMap fun r => varL r.Cells.length ++ cellsB r.Cells
def termL (t : TermD) : List UInt8 := numsL (headL t) ++ varL t.P.Args.length ++ numsL t.P.Args ++ varL t.P.Part.length ++ numsL (partI t.P.Part) ++ varL t.S.Tabs.length ++ numsL t.S.Tabs ++ cellsB t.S.Main.Cells ++ cellsB t.S.Alt.Cells ++ varL t.S.Back.length ++ rowsL t.S.Back
def termFine (t : TermD) : Bool := termOk t && decide ((termL t).length ≤ 40000)
def termOut (t : TermD) : List UInt8 := if termFine t = true then termL t else []
theorem termOut_len (t : TermD) : (termOut t).length ≤ 40000 := by
 unfold termOut
 split
 ·rename_i h
  unfold termFine at h
  rw [Bool.and_eq_true, decide_eq_true_eq] at h
  exact h.2
 ·exact Nat.zero_le _
theorem termOk_P {t : TermD} (h : termOk t = true) : vpOk t.P = true ∧ scrOk t.S = true := by
 unfold termOk at h
 rwa [Bool.and_eq_true] at h
theorem vpOk_bnd {v : VpD} (h : vpOk v = true) : (0 ≤ v.State ∧ v.State ≤ 3) ∧ v.Args.length ≤ 8 ∧ ∀ x, x ∈ v.Args → 0 ≤ x ∧ x ≤ 9999 := by
 unfold vpOk at h
 split at h
 ·simp only [Bool.and_eq_true, decide_eq_true_eq] at h
  have h0 : v.Args = [] := List.eq_nil_of_length_eq_zero h.1.2
  rw [h0]
  exact ⟨by omega, by simp, by simp⟩
 ·split at h
  ·simp only [Bool.and_eq_true, decide_eq_true_eq] at h
   have h0 : v.Args = [] := List.eq_nil_of_length_eq_zero h.1.2
   rw [h0]
   exact ⟨by omega, by simp, by simp⟩
  ·split at h
   ·rename_i h3
    unfold areArgs at h
    simp only [Bool.and_eq_true, decide_eq_true_eq, List.all_eq_true, within_iff] at h
    exact ⟨by omega, h.1.1, fun x hx => h.1.2 x hx⟩
   ·cases h
theorem scrOk_attr {s : ScrD} (h : scrOk s = true) : attrOk s.A.Fg s.A.Bg = true ∧ attrOk s.SaveA.Fg s.SaveA.Bg = true := by
 have h2 := (scrOk_P h).2.1
 unfold scrP2 at h2
 simp only [Bool.and_eq_true] at h2
 exact h2.2.2
theorem scrOk_tabs {s : ScrD} (h : scrOk s = true) : ∀ x, x ∈ s.Tabs → 0 ≤ x ∧ x ≤ 119 := by
 have h2 := (scrOk_P h).2.2.2.2.1
 have h3 := (scrOk_bnd h).1
 unfold isAsc at h2
 rw [List.all_eq_true] at h2
 intro x hx
 obtain ⟨i, hi, rfl⟩ := List.mem_iff_getElem.1 hx
 have h4 := h2 i (List.mem_range.2 hi)
 unfold ascAt at h4
 rw [Bool.and_eq_true, within_iff] at h4
 have e : iat s.Tabs i = s.Tabs[i] := by have := gat_get (F := encI) hi; rw [List.getElem?_eq_getElem hi] at this; exact (Option.some.inj this).symm
 rw [e] at h4
 omega
theorem headL_bnd {t : TermD} (h : termOk t = true) : ∀ x, x ∈ headL t → 0 ≤ x ∧ x ≤ 100000 := by
 obtain ⟨h1, h2⟩ := termOk_P h
 have hv := (vpOk_bnd h1).1
 obtain ⟨b1, b2, b3, b4, b5, b6⟩ := scrOk_bnd h2
 obtain ⟨a1, a2⟩ := scrOk_attr h2
 have n1 := attrNum_bnd a1
 have n2 := attrNum_bnd a2
 have f1 : 0 ≤ bitI t.S.OnAlt 1 ∧ bitI t.S.OnAlt 1 ≤ 1 := bitI_bnd (by decide)
 have f2 : 0 ≤ bitI t.S.Wrap 2 ∧ bitI t.S.Wrap 2 ≤ 2 := bitI_bnd (by decide)
 have f3 : 0 ≤ bitI t.S.NoWrap 4 ∧ bitI t.S.NoWrap 4 ≤ 4 := bitI_bnd (by decide)
 have f4 : 0 ≤ bitI t.S.Hide 8 ∧ bitI t.S.Hide 8 ≤ 8 := bitI_bnd (by decide)
 have f5 : 0 ≤ bitI t.P.Mark 16 ∧ bitI t.P.Mark 16 ≤ 16 := bitI_bnd (by decide)
 intro x hx
 simp only [headL, flagsI, List.mem_cons, List.not_mem_nil, or_false] at hx
 rcases hx with rfl | rfl | rfl | rfl | rfl | rfl | rfl | rfl | rfl | rfl | rfl | rfl | rfl <;> omega
theorem partI_bnd {l : List UInt8} : ∀ x, x ∈ partI l → 0 ≤ x ∧ x ≤ 255 := by
 intro x hx
 obtain ⟨b, _, rfl⟩ := List.mem_map.1 hx
 have := b.toNat_lt
 omega
theorem partI_len {l : List UInt8} : (partI l).length = l.length := by simp [partI]
theorem gridOk_cells {g : GridD} (h : gridOk g = true) : g.Cells.length ≤ 4000 ∧ cellsOk g.Cells = true := by
 have b := gridOk_bnd h
 unfold gridOk at h
 rw [Bool.and_eq_true, Bool.and_eq_true, decide_eq_true_eq] at h
 exact ⟨by omega, h.2⟩
theorem rowOk_cells {r : RowD} (h : rowOk r = true) : r.Cells.length ≤ 120 ∧ cellsOk r.Cells = true := by
 have := rowOk_len h
 unfold rowOk at h
 rw [Bool.and_eq_true] at h
 exact ⟨this, h.2⟩
theorem rowsL_take {b : List RowR} {i : Nat} (h : i < b.length) : rowsL ((b.take (i + 1)).map RowR.dat) = rowsL ((b.take i).map RowR.dat) ++ (varL (gat encRowR b i).Cells.xs.length ++ cellsB (gat encRowR b i).Cells.xs) := by
 unfold rowsL
 rw [List.take_add_one, gat_get (F := encRowR) h, List.map_append, List.flatMap_append]
 simp [RowR.dat]
theorem rowsL_len {b : List RowD} (h : ∀ r, r ∈ b → rowOk r = true) : (rowsL b).length ≤ 1805 * b.length := by
 induction b with
 | nil => simp [rowsL]
 | cons r l ih =>
  have h1 := ih fun q hq => h q (List.mem_cons_of_mem _ hq)
  obtain ⟨h2, h3⟩ := rowOk_cells (h r List.mem_cons_self)
  have h4 := cellsB_len (by omega) h3
  have h5 := varL_len r.Cells.length (by omega)
  have e : rowsL (r :: l) = (varL r.Cells.length ++ cellsB r.Cells) ++ rowsL l := by simp [rowsL]
  rw [e, List.length_append, List.length_append, List.length_cons]
  omega
theorem scrOk_rows {s : ScrD} (h : scrOk s = true) : ∀ r, r ∈ s.Back → rowOk r = true := by
 have := (scrOk_P h).2.2.2.2.2
 rwa [List.all_eq_true] at this
theorem cellsOut_ok {l : List CellD} (h : l.length ≤ 4000) (hc : cellsOk l = true) : cellsOut l = cellsB l := by
 unfold cellsOut cellsFine
 rw [hc, if_pos (by simp; exact h)]
def partF (g : GridD) (F : Nat → CellD) (lo i k : Nat) : CellD := if lo ≤ k ∧ k < lo + i then F k else cat g.Cells k
theorem partF_zero {g : GridD} {F : Nat → CellD} {lo k : Nat} : partF g F lo 0 k = cat g.Cells k := by
 unfold partF; rw [if_neg (by omega)]
theorem partF_add {g : GridD} {F : Nat → CellD} {lo i m k : Nat} : partF g F lo (i + m) k = if lo + i ≤ k ∧ k < lo + i + m then F k else partF g F lo i k := by
 unfold partF
 by_cases h1 : lo + i ≤ k ∧ k < lo + i + m
 ·rw [if_pos h1, if_pos (by omega)]
 ·rw [if_neg h1]
  by_cases h2 : lo ≤ k ∧ k < lo + i
  ·rw [if_pos h2, if_pos (by omega)]
  ·rw [if_neg h2, if_neg (by omega)]
theorem partF_one {g : GridD} {F : Nat → CellD} {lo i k : Nat} : partF g F lo (i + 1) k = if k = lo + i then F k else partF g F lo i k := by
 rw [partF_add]
 by_cases h : k = lo + i
 ·rw [if_pos h, if_pos (by omega)]
 ·rw [if_neg h, if_neg (by omega)]
theorem at_div {w y x : Nat} (hx : x < w) : (y * w + x) / w = y ∧ (y * w + x) % w = x := (dm_at hx).2 rfl
theorem rollF_row {g : GridD} {top bot n : Int} {y x : Nat} (hw : (x : Int) < g.W) (h1 : top ≤ (y : Int)) (h2 : (y : Int) ≤ bot) : rollF g top bot n (y * g.W.toNat + x) = if top ≤ (y : Int) + n ∧ (y : Int) + n ≤ bot then cat g.Cells (((y : Int) + n).toNat * g.W.toNat + x) else blankC := by
 obtain ⟨e1, e2⟩ := at_div (w := g.W.toNat) (y := y) (x := x) (by omega)
 unfold rollF
 rw [e1, e2, if_pos ⟨h1, h2⟩]
theorem rollF_out {g : GridD} {top bot n : Int} {k : Nat} (h : ¬ (top ≤ ((k / g.W.toNat : Nat) : Int) ∧ ((k / g.W.toNat : Nat) : Int) ≤ bot)) : rollF g top bot n k = cat g.Cells k := by
 unfold rollF; rw [if_neg h]
theorem partF_roll {g : GridD} {top bot n : Int} {k i : Nat} (hw : 0 < g.W.toNat) (ht : 0 ≤ top) (hi : i = (bot - top + 1).toNat * g.W.toNat) (htb : top ≤ bot) : partF g (rollF g top bot n) (top.toNat * g.W.toNat) i k = rollF g top bot n k := by
 unfold partF
 by_cases h : top ≤ ((k / g.W.toNat : Nat) : Int) ∧ ((k / g.W.toNat : Nat) : Int) ≤ bot
 ·rw [if_pos]
  subst hi
  rw [← Nat.add_mul]
  have h3 := Nat.div_add_mod k g.W.toNat
  have h4 := Nat.mod_lt k hw
  rw [Nat.mul_comm] at h3
  have h5 : top.toNat ≤ k / g.W.toNat := by omega
  have h6 : k / g.W.toNat + 1 ≤ top.toNat + (bot - top + 1).toNat := by omega
  have h7 := Nat.mul_le_mul_right g.W.toNat h5
  have h8 := Nat.mul_le_mul_right g.W.toNat h6
  rw [Nat.add_mul, Nat.one_mul] at h8
  omega
 ·rw [rollF_out h]; split <;> rfl
theorem rollF_big {g : GridD} {top bot n m : Int} (h0 : 0 ≤ top) (hb : bot < g.H) (hn : g.H ≤ n ∧ g.H ≤ m ∨ n ≤ -g.H ∧ m ≤ -g.H) : gRoll g top bot n = gRoll g top bot m := by
 unfold gRoll
 congr 1
 funext k
 unfold rollF
 split
 ·rename_i h
  rw [if_neg (by omega), if_neg (by omega)]
 ·rfl
theorem roll_next {g : GridD} {top bot m i : Int} {a c k : Nat} {xs : List CellD} {v : CellD} (h0 : 0 ≤ top) (hi : i = (top + a) * g.W + c) (hw : 0 ≤ g.W) (hl : i.toNat < xs.length) (hc : (c : Int) < g.W) (hb : top + a ≤ bot) (hv : v = if top ≤ top + a + m ∧ top + a + m ≤ bot then cat g.Cells ((top + a + m) * g.W + c).toNat else blankC)
  (hq : cat xs k = partF g (rollF g top bot m) (top.toNat * g.W.toNat) (a * g.W.toNat + c) k) : cat (xs.set i.toNat v) k = partF g (rollF g top bot m) (top.toNat * g.W.toNat) (a * g.W.toNat + c + 1) k := by
 have e1 : i.toNat = (top.toNat + a) * g.W.toNat + c := by
  rw [hi, Int.toNat_add (Int.mul_nonneg (by omega) hw) (by omega), Int.toNat_mul (by omega) hw, Int.toNat_natCast]
  congr 2; omega
 rw [partF_one]
 show gat encCell (xs.set i.toNat v) k = _
 rw [gat_set2 hl, e1, Nat.add_mul, Nat.add_assoc]
 split
 ·rename_i hk
  subst hk
  rw [hv, show top.toNat * g.W.toNat + (a * g.W.toNat + c) = (top.toNat + a) * g.W.toNat + c by rw [Nat.add_mul, Nat.add_assoc], rollF_row hc (by omega) (by omega)]
  rw [show ((top.toNat + a : Nat) : Int) = top + a by omega]
  split
  ·rename_i hs
   congr 1
   rw [Int.toNat_add (Int.mul_nonneg (by omega) hw) (by omega), Int.toNat_mul (by omega) hw, Int.toNat_natCast]
  ·rfl
 ·exact hq
theorem roll_done {g : GridD} {top bot n m w h : Int} {a : Nat} {xs : List CellD} (hg : gridOk g = true) (h0 : 0 ≤ top) (htb : top ≤ bot) (hb : bot < g.H) (ha : (a : Int) = bot - top + 1) (hw : w = g.W) (hh : h = g.H) (hl : xs.length = g.Cells.length) (hm : n = m ∨ (g.H ≤ n ∧ g.H ≤ m ∨ n ≤ -g.H ∧ m ≤ -g.H))
  (hp : ∀ k, k < g.Cells.length → cat xs k = partF g (rollF g top bot m) (top.toNat * g.W.toNat) (a * g.W.toNat) k) : (⟨w, h, xs⟩ : GridD) = gRoll g top bot n := by
 have b := gridOk_bnd hg
 have e : gRoll g top bot n = gRoll g top bot m := by
  rcases hm with hm | hm
  ·rw [hm]
  ·exact rollF_big h0 hb hm
 rw [e, hw, hh]
 unfold gRoll gmap
 congr 1
 refine ext_gat (F := encCell) hl (fun k hk => ?_)
 rw [← partF_roll (g := g) (top := top) (bot := bot) (n := m) (i := a * g.W.toNat) (by omega) h0 (by congr 1; omega) htb]
 exact hp k hk
theorem asc_at {l : List Int} {lo hi : Int} (h : isAsc l lo hi = true) {i : Nat} (hi' : i < l.length) : (lo ≤ iat l i ∧ iat l i ≤ hi) ∧ (0 < i → iat l (i - 1) < iat l i) := by
 unfold isAsc at h
 rw [List.all_eq_true] at h
 have h4 := h i (List.mem_range.2 hi')
 unfold ascAt at h4
 rw [Bool.and_eq_true, within_iff, Bool.or_eq_true, decide_eq_true_eq, decide_eq_true_eq] at h4
 exact ⟨h4.1, fun h0 => by rcases h4.2 with h5 | h5; omega; exact h5⟩
theorem asc_lt {l : List Int} {lo hi : Int} (h : isAsc l lo hi = true) {i : Nat} : ∀ {j : Nat}, i < j → j < l.length → iat l i < iat l j := by
 intro j
 induction j with
 | zero => intro h1; omega
 | succ j ih =>
  intro h1 h2
  have h3 := (asc_at h h2).2 (by omega)
  rw [Nat.add_sub_cancel] at h3
  rcases Nat.lt_or_ge i j with h4 | h4
  ·have := ih h4 (by omega); omega
  ·have : i = j := by omega
   subst this; exact h3
theorem asc_ge {l : List Int} {lo hi : Int} (h : isAsc l lo hi = true) : ∀ {i : Nat}, i < l.length → lo + i ≤ iat l i := by
 intro i
 induction i with
 | zero => intro h1; have := (asc_at h h1).1; omega
 | succ i ih =>
  intro h1
  have h2 := ih (by omega)
  have h3 := (asc_at h h1).2 (by omega)
  rw [Nat.add_sub_cancel] at h3
  omega
theorem asc_len {l : List Int} {w : Int} (h0 : 1 ≤ w) (h1 : w ≤ 120) (h : isAsc l 0 (w - 1) = true) : l.length ≤ 120 := by
 rcases Nat.lt_or_ge 120 l.length with h2 | h2
 ·have h3 := asc_ge h (i := 120) h2
  have h4 := (asc_at h (i := 120) h2).1
  omega
 ·exact h2
theorem within_of {x a b : Int} (h : a ≤ x ∧ x ≤ b) : within x a b = true := within_iff.2 h
structure ScrFine (s : ScrD) : Prop where
 gM : gridOk s.Main = true
 gA : gridOk s.Alt = true
 dim : s.Main.W = s.W ∧ s.Main.H = s.H ∧ s.Alt.W = s.W ∧ s.Alt.H = s.H
 pos : (0 ≤ s.X ∧ s.X < s.W) ∧ 0 ≤ s.Y ∧ s.Y < s.H
 sav : (0 ≤ s.SaveX ∧ s.SaveX < s.W) ∧ 0 ≤ s.SaveY ∧ s.SaveY < s.H
 wrp : s.Wrap = true → s.X = s.W - 1
 aA : attrOk s.A.Fg s.A.Bg = true
 aS : attrOk s.SaveA.Fg s.SaveA.Bg = true
 reg : (0 ≤ s.Top ∧ s.Top ≤ s.Bot) ∧ s.Bot < s.H ∧ (s.Top = s.Bot → s.H = 1)
 lim : (0 ≤ s.Limit ∧ s.Limit ≤ 100) ∧ (s.Back.length : Int) ≤ s.Limit
 tab : isAsc s.Tabs 0 (s.W - 1) = true
 row : s.Back.all rowOk = true
theorem ScrFine.of {s : ScrD} (h : scrOk s = true) : ScrFine s := by
 obtain ⟨h1, h2, h3, h4, h5, h6⟩ := scrOk_P h
 have hb := scrOk_bnd h
 have hm := scrOk_main h
 have ha := scrOk_attr h
 refine ⟨hm.1, hm.2, ⟨hb.1.2.2.1, hb.1.2.2.2.1, hb.1.2.2.2.2⟩, hb.2.1, hb.2.2.1, ?_, ha.1, ha.2, ⟨⟨hb.2.2.2.1.1, hb.2.2.2.1.2.1⟩, hb.2.2.2.1.2.2, ?_⟩, hb.2.2.2.2, h5, h6⟩
 ·intro hw
  unfold scrP2 at h2
  rw [hw] at h2
  simp only [Bool.and_eq_true, Bool.not_true, Bool.false_or, decide_eq_true_eq] at h2
  exact h2.2.1
 ·intro he
  unfold scrP3 at h3
  rw [he] at h3
  simp only [Bool.and_eq_true, decide_true, Bool.not_true, Bool.false_or, decide_eq_true_eq] at h3
  exact h3.2.2
theorem ScrFine.ok {s : ScrD} (h : ScrFine s) : scrOk s = true := by
 have b := gridOk_bnd h.gM
 obtain ⟨d1, d2, d3, d4⟩ := h.dim
 have hp := h.pos
 have hs := h.sav
 have hr := h.reg
 have hl := h.lim
 refine scrOk_all ?_ ?_ ?_ ?_ h.tab h.row
 ·unfold scrP1 gridFit
  simp [h.gM, h.gA, d1, d2, d3, d4]
 ·unfold scrP2 gridHas
  rw [within_of (by omega), within_of (by omega), within_of (by omega), within_of (by omega), h.aA, h.aS]
  have hw := h.wrp
  cases hq : s.Wrap
  ·rfl
  ·simp [hw hq]
 ·unfold scrP3
  simp only [Bool.and_eq_true, decide_eq_true_eq, Bool.or_eq_true, Bool.not_eq_true', decide_eq_false_iff_not]
  refine ⟨hr.1, hr.2.1, ?_⟩
  by_cases he : s.Top = s.Bot
  ·exact .inr (hr.2.2 he)
  ·exact .inl he
 ·unfold scrP4
  rw [within_of hl.1, Bool.true_and, decide_eq_true_eq]
  exact hl.2
theorem scr_tot {s : ScrD} (h : scrOk s = true) : totScr s ≤ 20220 := by
 have f := ScrFine.of h
 have m := gridOk_cells f.gM
 have a := gridOk_cells f.gA
 have b := back_bnd (scrOk_back h) f.lim.2 f.lim.1.2
 have t : s.Tabs.length ≤ 120 := by
  have hb := scrOk_bnd h
  exact asc_len (by omega) (by omega) f.tab
 show s.Main.Cells.length + s.Alt.Cells.length + s.Tabs.length + tots totRow s.Back ≤ 20220
 omega
theorem blank_ok : cellOk blankC = true := by decide
theorem grid_len {g : GridD} (hg : gridOk g = true) : (g.Cells.length : Int) = g.W * g.H := by
 unfold gridOk at hg; rw [Bool.and_eq_true, Bool.and_eq_true, decide_eq_true_eq] at hg; exact hg.1.2
theorem cat_ok {g : GridD} {k : Nat} (hg : gridOk g = true) (hk : k < g.Cells.length) : cellOk (cat g.Cells k) = true := by
 have h := (gridOk_cells hg).2
 unfold cellsOk at h
 rw [List.all_eq_true] at h
 exact h _ (gat_mem (F := encCell) hk)
theorem gmap_ok {g : GridD} {f : Nat → CellD} (hg : gridOk g = true) (h : ∀ k, k < g.Cells.length → cellOk (f k) = true) : gridOk (gmap g f) = true := by
 have hg' := hg
 unfold gridOk at hg' ⊢
 rw [Bool.and_eq_true, Bool.and_eq_true] at hg' ⊢
 refine ⟨⟨hg'.1.1, ?_⟩, ?_⟩
 ·rw [decide_eq_true_eq, gmap_len]; exact grid_len hg
 ·unfold cellsOk
  rw [List.all_eq_true]
  intro x hx
  obtain ⟨k, hk, rfl⟩ := List.mem_map.1 hx
  exact h k (List.mem_range.1 hk)
theorem idx_lt {g : GridD} {r : Int} {x : Nat} (hg : gridOk g = true) (h0 : 0 ≤ r) (h1 : r < g.H) (hx : x < g.W.toNat) : r.toNat * g.W.toNat + x < g.Cells.length := by
 have b := gridOk_bnd hg
 have l := grid_len hg
 have e : ((g.H.toNat * g.W.toNat : Nat) : Int) = g.W * g.H := by rw [Int.natCast_mul, Int.toNat_of_nonneg (by omega), Int.toNat_of_nonneg (by omega), Int.mul_comm]
 have m := Nat.mul_le_mul_right g.W.toNat (show r.toNat + 1 ≤ g.H.toNat by omega)
 rw [Nat.add_mul, Nat.one_mul] at m
 omega
theorem gRoll_ok {g : GridD} {top bot n : Int} (hg : gridOk g = true) (h0 : 0 ≤ top) (hb : bot < g.H) : gridOk (gRoll g top bot n) = true := by
 have b := gridOk_bnd hg
 refine gmap_ok hg (fun k hk => ?_)
 unfold rollF
 split
 ·split
  ·exact cat_ok hg (idx_lt hg (by omega) (by omega) (Nat.mod_lt _ (by omega)))
  ·exact blank_ok
 ·exact cat_ok hg hk
theorem gShift_ok {g : GridD} {x y n : Int} (hg : gridOk g = true) (h0 : 0 ≤ x) (hy : 0 ≤ y ∧ y < g.H) : gridOk (gShift g x y n) = true := by
 have b := gridOk_bnd hg
 refine gmap_ok hg (fun k hk => ?_)
 unfold shiftF
 split
 ·rename_i h
  split
  ·have := idx_lt (r := ((k / g.W.toNat : Nat) : Int)) (x := (((k % g.W.toNat : Nat) : Int) - n).toNat) hg (by omega) (by omega) (by omega)
   rw [Int.toNat_natCast] at this
   exact cat_ok hg this
  ·exact blank_ok
 ·exact cat_ok hg hk
theorem gFill_ok {g : GridD} {x y w h : Int} {c : CellD} (hg : gridOk g = true) (hc : cellOk c = true) : gridOk (gFill g x y w h c) = true := by
 refine gmap_ok hg (fun k hk => ?_)
 unfold fillFn
 split
 ·exact hc
 ·exact cat_ok hg hk
def shownD (s : ScrD) : GridD := if s.OnAlt = true then s.Alt else s.Main
def putD (s : ScrD) (g : GridD) : ScrD := if s.OnAlt = true then { s with Alt := g } else { s with Main := g }
def shownR (x : ScrR) : GridR := if x.OnAlt = true then x.Alt else x.Main
theorem shownR_dat {x : ScrR} : (shownR x).dat = shownD x.dat := by
 unfold shownR shownD
 by_cases h : x.OnAlt = true
 ·rw [if_pos h, if_pos (show x.dat.OnAlt = true from h)]; rfl
 ·rw [if_neg h, if_neg (show ¬ x.dat.OnAlt = true from h)]; rfl
theorem shownR_alt {x : ScrR} (h : x.OnAlt = true) : shownR x = x.Alt := if_pos h
theorem shownR_main {x : ScrR} (h : ¬ x.OnAlt = true) : shownR x = x.Main := if_neg h
theorem okScrR.shown {B : Nat} {w : World} {x : ScrR} (h : okScrR B w x) : okGridR B w (shownR x) := by
 unfold shownR; split
 ·exact h.Alt
 ·exact h.Main
theorem sepScrR.shown {T : List Nat} {x : ScrR} (h : sepScrR T x) : sepGridR T (shownR x) := by
 unfold shownR; split
 ·exact h.Alt
 ·exact h.Main
theorem ScrFine.shown {s : ScrD} (h : ScrFine s) : gridOk (shownD s) = true ∧ (shownD s).W = s.W ∧ (shownD s).H = s.H := by
 unfold shownD
 split
 ·exact ⟨h.gA, h.dim.2.2⟩
 ·exact ⟨h.gM, h.dim.1, h.dim.2.1⟩
theorem ScrFine.put {s : ScrD} {g : GridD} (h : ScrFine s) (hg : gridOk g = true) (hd : g.W = s.W ∧ g.H = s.H) : ScrFine (putD s g) := by
 unfold putD
 split
 ·exact ⟨h.gM, hg, ⟨h.dim.1, h.dim.2.1, hd⟩, h.pos, h.sav, h.wrp, h.aA, h.aS, h.reg, h.lim, h.tab, h.row⟩
 ·exact ⟨hg, h.gA, ⟨hd.1, hd.2, h.dim.2.2⟩, h.pos, h.sav, h.wrp, h.aA, h.aS, h.reg, h.lim, h.tab, h.row⟩
def rollD (s : ScrD) (top bot n : Int) : ScrD := putD s (gRoll (shownD s) top bot n)
def keepD (s : ScrD) (n : Int) : ScrD := if s.OnAlt = false ∧ s.Top = 0 then keepRows s (min n (s.Bot + 1)).toNat else s
def rollUpD (s : ScrD) (n : Int) : ScrD := rollD (keepD s n) s.Top s.Bot n
def wrapD (s : ScrD) (b : Bool) : ScrD := { s with Wrap := b }
def downD (s : ScrD) : ScrD := wrapD (if s.Y = s.Bot then rollUpD s 1 else if s.Y < s.H - 1 then { s with Y := s.Y + 1 } else s) false
def upD (s : ScrD) : ScrD := wrapD (if s.Y = s.Top then rollD s s.Top s.Bot (-1) else if s.Y > 0 then { s with Y := s.Y - 1 } else s) false
def saveD (s : ScrD) : ScrD := { s with SaveX := s.X, SaveY := s.Y, SaveA := s.A }
def backD (s : ScrD) : ScrD := { s with X := s.SaveX, Y := s.SaveY, A := s.SaveA, Wrap := false }
def tabL (s : ScrD) : List Int := ((List.range s.W.toNat).map (fun i : Nat => (i : Int))).filter (fun x => decide (x = s.X) || s.Tabs.contains x)
def tabD (s : ScrD) : ScrD := { s with Tabs := tabL s }
def resetD (s : ScrD) : ScrD := { scrNew s.W s.H s.Limit with Back := s.Back }
theorem ScrFine.roll {s : ScrD} {top bot n : Int} (h : ScrFine s) (h0 : 0 ≤ top) (hb : bot < s.H) : ScrFine (rollD s top bot n) := by
 have hs := h.shown
 exact h.put (gRoll_ok hs.1 h0 (by rw [hs.2.2]; exact hb)) hs.2
theorem rowAt_ok {g : GridD} {i : Nat} (hg : gridOk g = true) (hi : (i : Int) < g.H) : rowOk (rowAt g i) = true := by
 have b := gridOk_bnd hg
 have l := grid_len hg
 have h2 := idx_lt (r := (i : Int)) (x := 0) hg (by omega) hi (by omega)
 have h3 := idx_lt (r := (i : Int)) (x := g.W.toNat - 1) hg (by omega) hi (by omega)
 rw [Int.toNat_natCast] at h2 h3
 have hl : (rowAt g i).Cells.length = g.W.toNat := by
  show ((g.Cells.drop _).take _).length = _
  rw [List.length_take, List.length_drop]; omega
 unfold rowOk
 rw [Bool.and_eq_true]
 refine ⟨within_of (by omega), ?_⟩
 have hc := (gridOk_cells hg).2
 unfold cellsOk at hc ⊢
 rw [List.all_eq_true] at hc ⊢
 exact fun x hx => hc x (List.mem_of_mem_drop (List.mem_of_mem_take hx))
theorem ScrFine.keepRows {s : ScrD} {n : Nat} (h : ScrFine s) (hn : (n : Int) ≤ s.H) : ScrFine (keepRows s n) := by
 refine ⟨h.gM, h.gA, h.dim, h.pos, h.sav, h.wrp, h.aA, h.aS, h.reg, ⟨h.lim.1, ?_⟩, h.tab, ?_⟩
 ·show ((lastN _ _).length : Int) ≤ s.Limit
  rw [lastN_len]; have := h.lim.1; omega
 ·show (lastN _ _).all rowOk = true
  rw [List.all_eq_true]
  intro x hx
  rcases List.mem_append.1 (List.mem_of_mem_drop hx) with hx | hx
  ·exact List.all_eq_true.1 h.row x hx
  ·obtain ⟨i, hi, rfl⟩ := List.mem_map.1 hx
   exact rowAt_ok h.gM (by rw [h.dim.2.1]; have := List.mem_range.1 hi; omega)
theorem ScrFine.keep {s : ScrD} {n : Int} (h : ScrFine s) : ScrFine (keepD s n) := by
 unfold keepD
 split
 ·exact h.keepRows (by have := h.reg; omega)
 ·exact h
theorem keepD_eqs {s : ScrD} {n : Int} : (keepD s n).H = s.H ∧ (keepD s n).Top = s.Top ∧ (keepD s n).Bot = s.Bot ∧ (keepD s n).W = s.W ∧ (keepD s n).OnAlt = s.OnAlt ∧ (keepD s n).Main = s.Main ∧ (keepD s n).Alt = s.Alt := by
 unfold keepD; split <;> exact ⟨rfl, rfl, rfl, rfl, rfl, rfl, rfl⟩
theorem ScrFine.rollUp {s : ScrD} {n : Int} (h : ScrFine s) : ScrFine (rollUpD s n) := by
 have := h.reg
 exact h.keep.roll (by omega) (by rw [keepD_eqs.1]; omega)
theorem ScrFine.wrap0 {s : ScrD} (h : ScrFine s) : ScrFine (wrapD s false) :=
 ⟨h.gM, h.gA, h.dim, h.pos, h.sav, fun h9 => Bool.noConfusion h9, h.aA, h.aS, h.reg, h.lim, h.tab, h.row⟩
theorem ScrFine.y {s : ScrD} {y : Int} (h : ScrFine s) (hy : 0 ≤ y ∧ y < s.H) : ScrFine { s with Y := y } :=
 ⟨h.gM, h.gA, h.dim, ⟨h.pos.1, hy⟩, h.sav, h.wrp, h.aA, h.aS, h.reg, h.lim, h.tab, h.row⟩
theorem ScrFine.down {s : ScrD} (h : ScrFine s) : ScrFine (downD s) := by
 have hp := h.pos
 refine ScrFine.wrap0 ?_
 split
 ·exact h.rollUp
 ·split
  ·exact h.y (by omega)
  ·exact h
theorem ScrFine.up {s : ScrD} (h : ScrFine s) : ScrFine (upD s) := by
 have hp := h.pos
 have hr := h.reg
 refine ScrFine.wrap0 ?_
 split
 ·exact h.roll (by omega) (by omega)
 ·split
  ·exact h.y (by omega)
  ·exact h
theorem ScrFine.save {s : ScrD} (h : ScrFine s) : ScrFine (saveD s) :=
 ⟨h.gM, h.gA, h.dim, h.pos, h.pos, h.wrp, h.aA, h.aA, h.reg, h.lim, h.tab, h.row⟩
theorem ScrFine.back {s : ScrD} (h : ScrFine s) : ScrFine (backD s) :=
 ⟨h.gM, h.gA, h.dim, h.sav, h.sav, fun h9 => Bool.noConfusion h9, h.aS, h.aS, h.reg, h.lim, h.tab, h.row⟩
def sgrOne (a : AttrD) (n : Int) : AttrD :=
 if n = 0 then ⟨0, 0, false, false, false⟩
 else if n = 1 ∨ n = 22 then { a with Bold := decide (n = 1) }
 else if n = 4 ∨ n = 24 then { a with Under := decide (n = 4) }
 else if n = 7 ∨ n = 27 then { a with Turn := decide (n = 7) }
 else if 30 ≤ n ∧ n ≤ 37 then { a with Fg := n - 29 }
 else if n = 39 then { a with Fg := 0 }
 else if 40 ≤ n ∧ n ≤ 47 then { a with Bg := n - 39 }
 else if n = 49 then { a with Bg := 0 } else a
def sgrAll (a : AttrD) (l : List Int) : AttrD := l.foldl sgrOne a
theorem sgrAll_take {a : AttrD} {l : List Int} {i : Nat} (h : i < l.length) : sgrAll a (l.take (i + 1)) = sgrOne (sgrAll a (l.take i)) (iat l i) := by
 unfold sgrAll
 rw [List.take_add_one, gat_get (F := encI) h, List.foldl_append]
 rfl
def sgrRes (a : AttrD) (l : List Int) : AttrD := if attrOk a.Fg a.Bg = true ∧ 0 < l.length then sgrAll a l else ⟨0, 0, false, false, false⟩
theorem attrOk_iff {a b : Int} : attrOk a b = true ↔ (0 ≤ a ∧ a ≤ 8) ∧ 0 ≤ b ∧ b ≤ 8 := by
 unfold attrOk; rw [Bool.and_eq_true, within_iff, within_iff]
theorem sgrOne_ok {a : AttrD} {n : Int} (h : attrOk a.Fg a.Bg = true) : attrOk (sgrOne a n).Fg (sgrOne a n).Bg = true := by
 rw [attrOk_iff] at h ⊢
 unfold sgrOne
 repeat' split
 all_goals (first | omega | (simp only; omega))
theorem sgrAll_ok {l : List Int} : ∀ {a : AttrD}, attrOk a.Fg a.Bg = true → attrOk (sgrAll a l).Fg (sgrAll a l).Bg = true := by
 induction l with
 | nil => exact fun h => h
 | cons x r ih => exact fun h => ih (sgrOne_ok h)
theorem sgrRes_ok {a : AttrD} {l : List Int} : attrOk (sgrRes a l).Fg (sgrRes a l).Bg = true := by
 unfold sgrRes
 split
 ·rename_i h; exact sgrAll_ok h.1
 ·decide
def argI (l : List Int) (k : Nat) (d : Int) : Int := if k < l.length ∧ iat l k ≠ 0 then iat l k else d
theorem argI_bnd {l : List Int} {k : Nat} {d : Int} (h : areArgs l = true) (hd : 0 ≤ d ∧ d ≤ 9999) : 0 ≤ argI l k d ∧ argI l k d ≤ 9999 := by
 unfold argI
 split
 ·rename_i h1
  exact (areArgs_iff.1 h).2 _ (gat_mem (F := encI) h1.1)
 ·exact hd
theorem argI_pos {l : List Int} {k : Nat} {d : Int} (h : areArgs l = true) (hd : 1 ≤ d ∧ d ≤ 9999) : 1 ≤ argI l k d ∧ argI l k d ≤ 9999 := by
 have h0 := argI_bnd (k := k) h (d := d) (by omega)
 unfold argI at h0 ⊢
 split at h0
 ·rename_i h1; rw [if_pos h1]; have := h1.2; omega
 ·rename_i h1; rw [if_neg h1]; exact hd
def clampI (x hi : Int) : Int := max 0 (min x hi)
theorem clampI_bnd {x w : Int} (h : 1 ≤ w) : 0 ≤ clampI x (w - 1) ∧ clampI x (w - 1) < w := by unfold clampI; omega
def moveD (s : ScrD) (x y : Int) : ScrD := { s with X := clampI x (s.W - 1), Y := clampI y (s.H - 1), Wrap := false }
def clearF (g : GridD) (a b : Int) (k : Nat) : CellD := if a ≤ (k : Int) ∧ (k : Int) < b then blankC else cat g.Cells k
def clearD (s : ScrD) (a b : Int) : ScrD := putD s (gmap (shownD s) (clearF (shownD s) a b))
def eraseD (s : ScrD) (a b k : Int) : ScrD :=
 if k = 0 then clearD s (s.Y * s.W + s.X) b else if k = 1 then clearD s a (s.Y * s.W + s.X + 1) else if k = 2 then clearD s a b else s
def regionD (s : ScrD) (l : List Int) : ScrD :=
 if argI l 0 1 - 1 < argI l 1 s.H - 1 ∧ argI l 1 s.H - 1 < s.H then moveD { s with Top := argI l 0 1 - 1, Bot := argI l 1 s.H - 1 } 0 0 else s
def tabsD (s : ScrD) (k : Int) : ScrD := { s with Tabs := s.Tabs.filter fun x => (decide (k = 0) && !decide (x = s.X)) || (!decide (k = 0) && !decide (k = 3)) }
def linesD (s : ScrD) (n : Int) : ScrD := if within s.Y s.Top s.Bot = true then { rollD s s.Y s.Bot n with X := 0, Wrap := false } else s
def modeD (s : ScrD) (n : Int) (on : Bool) : ScrD :=
 if n = 7 then { s with NoWrap := !on, Wrap := s.Wrap && on }
 else if n = 25 then { s with Hide := !on }
 else if (n = 1049 ∧ on = true) ∧ s.OnAlt = false then { saveD s with Alt := gridNew s.W s.H, OnAlt := true }
 else if (n = 1049 ∧ on = false) ∧ s.OnAlt = true then backD { s with OnAlt := false } else s
def csiD (s : ScrD) (l : List Int) (b : Int) : ScrD :=
 if b = 65 then moveD s s.X (s.Y - argI l 0 1)
 else if b = 66 then moveD s s.X (s.Y + argI l 0 1)
 else if b = 67 then moveD s (s.X + argI l 0 1) s.Y
 else if b = 68 then moveD s (s.X - argI l 0 1) s.Y
 else if b = 71 then moveD s (argI l 0 1 - 1) s.Y
 else if b = 100 then moveD s s.X (argI l 0 1 - 1)
 else if b = 72 ∨ b = 102 then moveD s (argI l 1 1 - 1) (argI l 0 1 - 1)
 else if b = 74 then eraseD s 0 (s.W * s.H) (argI l 0 0)
 else if b = 75 then eraseD s (s.Y * s.W) ((s.Y + 1) * s.W) (argI l 0 0)
 else if b = 88 then clearD s (s.Y * s.W + s.X) (min (s.Y * s.W + s.X + argI l 0 1) ((s.Y + 1) * s.W))
 else if b = 64 then putD s (gShift (shownD s) s.X s.Y (argI l 0 1))
 else if b = 80 then putD s (gShift (shownD s) s.X s.Y (-argI l 0 1))
 else if b = 76 then linesD s (-argI l 0 1)
 else if b = 77 then linesD s (argI l 0 1)
 else if b = 83 then rollUpD s (argI l 0 1)
 else if b = 84 then rollD s s.Top s.Bot (-argI l 0 1)
 else if b = 109 then { s with A := sgrRes s.A l }
 else if b = 114 then regionD s l
 else if b = 103 then tabsD s (argI l 0 0)
 else s
def seqD (s : ScrD) (mark : Bool) (l : List Int) (b : Int) : ScrD :=
 if mark = false then csiD s l b else if b = 104 ∨ b = 108 then l.foldl (fun s n => modeD s n (decide (b = 104))) s else s
def csiOk (s : ScrD) (l : List Int) : Bool := areArgs l && scrOk s
def scrCsiRes (s : ScrD) (mark : Bool) (l : List Int) (b : Int) : ScrD := if csiOk s l = true then seqD s mark l b else scr0
theorem ScrFine.move {s : ScrD} {x y : Int} (h : ScrFine s) : ScrFine (moveD s x y) := by
 have hp := h.pos
 exact ⟨h.gM, h.gA, h.dim, ⟨clampI_bnd (by omega), clampI_bnd (by omega)⟩, h.sav, fun h9 => Bool.noConfusion h9, h.aA, h.aS, h.reg, h.lim, h.tab, h.row⟩
theorem ScrFine.clear {s : ScrD} {a b : Int} (h : ScrFine s) : ScrFine (clearD s a b) := by
 have hs := h.shown
 refine h.put (gmap_ok hs.1 (fun k hk => ?_)) hs.2
 unfold clearF
 split
 ·exact blank_ok
 ·exact cat_ok hs.1 hk
theorem ScrFine.erase {s : ScrD} {a b k : Int} (h : ScrFine s) : ScrFine (eraseD s a b k) := by
 unfold eraseD
 repeat' split
 all_goals first | exact h.clear | exact h
theorem ScrFine.region {s : ScrD} {l : List Int} (h : ScrFine s) (hl : areArgs l = true) : ScrFine (regionD s l) := by
 have b := gridOk_bnd h.gM
 obtain ⟨d1, d2, _⟩ := h.dim
 unfold regionD
 split
 ·rename_i hr
  have h1 := argI_pos (k := 0) hl (d := 1) (by omega)
  have h' : ScrFine { s with Top := argI l 0 1 - 1, Bot := argI l 1 s.H - 1 } := ⟨h.gM, h.gA, h.dim, h.pos, h.sav, h.wrp, h.aA, h.aS, ⟨by constructor <;> (simp only; omega), hr.2, fun he => by simp only at he; omega⟩, h.lim, h.tab, h.row⟩
  exact h'.move
 ·exact h
theorem ScrFine.wx {s : ScrD} (h : ScrFine s) : ScrFine { s with X := 0, Wrap := false } := by
 have hp := h.pos
 exact ⟨h.gM, h.gA, h.dim, ⟨by constructor <;> (simp only; omega), hp.2⟩, h.sav, fun h9 => Bool.noConfusion h9, h.aA, h.aS, h.reg, h.lim, h.tab, h.row⟩
theorem ScrFine.lines {s : ScrD} {n : Int} (h : ScrFine s) : ScrFine (linesD s n) := by
 unfold linesD
 split
 ·rename_i hw
  rw [within_iff] at hw
  have hr := h.reg
  exact (h.roll (by omega) (by omega)).wx
 ·exact h
theorem asc_pair {l : List Int} {lo hi : Int} : isAsc l lo hi = true ↔ l.Pairwise (· < ·) ∧ ∀ x, x ∈ l → lo ≤ x ∧ x ≤ hi := by
 constructor
 ·intro h
  constructor
  ·rw [List.pairwise_iff_getElem]
   intro i j hi' hj hij
   have := asc_lt h hij hj
   rwa [show iat l i = l[i] from gat_lt hi', show iat l j = l[j] from gat_lt hj] at this
  ·intro x hx
   obtain ⟨i, hi', rfl⟩ := List.mem_iff_getElem.1 hx
   have := (asc_at h hi').1
   rwa [show iat l i = l[i] from gat_lt hi'] at this
 ·rintro ⟨h1, h2⟩
  refine isAsc_all fun i hi' => ?_
  unfold ascAt
  rw [Bool.and_eq_true, within_iff, Bool.or_eq_true, decide_eq_true_eq, decide_eq_true_eq, show iat l i = l[i] from gat_lt hi']
  refine ⟨h2 _ (List.getElem_mem hi'), ?_⟩
  rcases Nat.eq_zero_or_pos i with h3 | h3
  ·exact .inl h3
  ·right
   rw [show iat l (i - 1) = l[i - 1] from gat_lt (by omega)]
   exact List.pairwise_iff_getElem.1 h1 (i - 1) i (by omega) hi' (by omega)
theorem asc_sub {l m : List Int} {lo hi : Int} (h : isAsc l lo hi = true) (hm : m.Sublist l) : isAsc m lo hi = true := by
 rw [asc_pair] at h ⊢
 exact ⟨h.1.sublist hm, fun x hx => h.2 x (hm.subset hx)⟩
theorem ScrFine.tabs {s : ScrD} {l : List Int} (h : ScrFine s) (hl : isAsc l 0 (s.W - 1) = true) : ScrFine { s with Tabs := l } :=
 ⟨h.gM, h.gA, h.dim, h.pos, h.sav, h.wrp, h.aA, h.aS, h.reg, h.lim, hl, h.row⟩
theorem ScrFine.sgr {s : ScrD} {l : List Int} (h : ScrFine s) : ScrFine { s with A := sgrRes s.A l } :=
 ⟨h.gM, h.gA, h.dim, h.pos, h.sav, h.wrp, sgrRes_ok, h.aS, h.reg, h.lim, h.tab, h.row⟩
theorem ScrFine.shift {s : ScrD} {n : Int} (h : ScrFine s) : ScrFine (putD s (gShift (shownD s) s.X s.Y n)) := by
 have hs := h.shown
 have hp := h.pos
 exact h.put (gShift_ok hs.1 hp.1.1 (by rw [hs.2.2]; exact hp.2)) hs.2
theorem fine_ite {p : Prop} [Decidable p] {a b : ScrD} (ha : ScrFine a) (hb : ScrFine b) : ScrFine (if p then a else b) := by
 by_cases h : p
 ·rw [if_pos h]; exact ha
 ·rw [if_neg h]; exact hb
theorem ScrFine.csi {s : ScrD} {l : List Int} {b : Int} (h : ScrFine s) (hl : areArgs l = true) : ScrFine (csiD s l b) := by
 have hr := h.reg
 unfold csiD
 repeat' (with_reducible refine fine_ite ?_ ?_)
 all_goals first | exact h.move | exact h.erase | exact h.clear | exact h.shift | exact h.lines | exact h.rollUp | exact h.roll (by omega) (by omega) | exact h.sgr | exact h.region hl | exact h.tabs (asc_sub h.tab List.filter_sublist) | exact h
theorem isSize_of {g : GridD} (hg : gridOk g = true) : isSize g.W g.H = true := by
 unfold gridOk at hg; rw [Bool.and_eq_true, Bool.and_eq_true] at hg; exact hg.1.1
theorem ScrFine.size {s : ScrD} (h : ScrFine s) : isSize s.W s.H = true := by
 have := isSize_of h.gM
 rwa [h.dim.1, h.dim.2.1] at this
theorem ScrFine.mode {s : ScrD} {n : Int} {on : Bool} (h : ScrFine s) : ScrFine (modeD s n on) := by
 unfold modeD
 split
 ·exact ⟨h.gM, h.gA, h.dim, h.pos, h.sav, fun h9 => h.wrp (by simp only [Bool.and_eq_true] at h9; exact h9.1), h.aA, h.aS, h.reg, h.lim, h.tab, h.row⟩
 ·split
  ·exact ⟨h.gM, h.gA, h.dim, h.pos, h.sav, h.wrp, h.aA, h.aS, h.reg, h.lim, h.tab, h.row⟩
  ·split
   ·exact ⟨h.gM, gridOk_new h.size, ⟨h.dim.1, h.dim.2.1, rfl, rfl⟩, h.pos, h.pos, h.wrp, h.aA, h.aA, h.reg, h.lim, h.tab, h.row⟩
   ·split
    ·exact ⟨h.gM, h.gA, h.dim, h.sav, h.sav, fun h9 => Bool.noConfusion h9, h.aS, h.aS, h.reg, h.lim, h.tab, h.row⟩
    ·exact h
def modesD (s : ScrD) (l : List Int) (on : Bool) : ScrD := l.foldl (fun s n => modeD s n on) s
theorem modesD_take {s : ScrD} {l : List Int} {i : Nat} {on : Bool} (h : i < l.length) : modesD s (l.take (i + 1)) on = modeD (modesD s (l.take i) on) (iat l i) on := by
 unfold modesD
 rw [List.take_add_one, gat_get (F := encI) h, List.foldl_append]
 rfl
theorem ScrFine.modes {l : List Int} {on : Bool} : ∀ {s : ScrD}, ScrFine s → ScrFine (modesD s l on) := by
 induction l with
 | nil => exact fun h => h
 | cons x r ih => exact fun h => ih h.mode
theorem ScrFine.seq {s : ScrD} {mark : Bool} {l : List Int} {b : Int} (h : ScrFine s) (hl : areArgs l = true) : ScrFine (seqD s mark l b) := by
 unfold seqD
 split
 ·exact h.csi hl
 ·split
  ·exact ScrFine.modes h
  ·exact h
theorem k34_ (g : GridR) (top : Int) (bot : Int) (n : Int) (w : World) (f_g : okGridR 549755813888 w g) (hg : gridOk g.dat = true) (ht : 0 ≤ top ∧ top ≤ bot ∧ bot < g.H) (hn : -100000 ≤ n ∧ n ≤ 100000) :
    Calls Tryz.prog 144 #[.agg #[i64 g.W, i64 g.H, .slice g.Cells.A g.Cells.n g.Cells.c], i64 top, i64 bot, i64 n] w fun e w' => ∃ r L1, e = .returned (.agg #[i64 r.W, i64 r.H, .slice r.Cells.A r.Cells.n r.Cells.c]) ∧ St w [] L1 w' ∧ ownGridR r L1 ∧ r.dat = gRoll g.dat top bot n := by
 have nb_g_Cells := f_g.Cells_n
 have nl_g_Cells := f_g.Cells.len
 have hgb : (1 ≤ g.W ∧ g.W ≤ 120) ∧ (1 ≤ g.H ∧ g.H ≤ 120) ∧ 1 ≤ g.W * g.H ∧ g.W * g.H ≤ 4000 := gridOk_bnd hg
 have hgl : (g.Cells.xs.length : Int) = g.W * g.H := grid_len hg
 have hsmg : smGrid 1048576 g.dat := by show g.Cells.xs.length ≤ 1048576; omega
 refine enter 103 Tryz.func144 rfl Tryz.ntmps144 rfl rfl ?_
 have hs1 := St.init w
 refine WC.sr (WL.bx hs1 rfl (fun b2 _ hs3 => WL.al hs3 Tryz.zeroValue28 rfl rfl (fun b4 _ hs5 => WL.nil (WC.seq (fun K6 hK6 => WC.sr (WL.r 1 hs5 [1] rfl (WL.cl Tryz.call138 rfl (k28_ g _ (okGridR.st0 f_g hs5)) ?_)))))))
 rintro _ whs7 ⟨rfl, hs7⟩
 replace hs7 := hs5.call0 hs7
 refine ⟨_, rfl, WL.r 2 hs7 [] rfl (WL.pO tbk 2 Acts.nil hs7 [] rfl rfl rfl rfl (fun g_ => trivial) (WL.r 1 hs7 [] rfl (WL.pO tbk 3 Acts.nil hs7 [] rfl rfl rfl rfl (fun g_ => trivial) (WL.r 1 hs7 [] rfl (WL.pO tbk 4 Acts.nil hs7 [1] rfl rfl rfl rfl (fun g_ => ⟨rfl, trivial⟩) (WL.nil ?_))))))⟩
 refine WC.cq rfl (fun h8 qh8 => ?_) (fun h8 qh8 => ?_)
 ·exfalso; have h9 := h8; simp [hg] at h9; omega
 refine WC.skip (hK6 _ _ (WC.seq (fun K9 hK9 => WC.r1 hs7 [1] rfl ?_)))
 refine WC.mergeK [(1, _), (2, _), (4, _), (8, _), (29, _), (34, _)] 3 (i64 (min n g.H)) hs7 ⟨rfl, rfl, rfl, rfl, rfl, rfl, trivial⟩ (fun f whs11 hF12 hs11 => ?_) (fun hJ10 => ?_)
 ·refine hK9 _ _ (WC.sub _ hF12 ?_)
  clear hF12
  refine WC.seq (fun K13 hK13 => WC.r1 hs11 [1] rfl ?_)
  refine WC.mergeK [(1, _), (2, _), (4, _), (8, _), (29, _), (34, _), (41, _)] 3 (i64 (max (min n g.H) (-g.H))) hs11 ⟨rfl, rfl, rfl, rfl, rfl, rfl, rfl, trivial⟩ (fun f whs15 hF16 hs15 => ?_) (fun hJ14 => ?_)
  ·refine hK13 _ _ (WC.sub _ hF16 ?_)
   clear hF16
   refine WC.sr (WL.r 1 hs15 [1] rfl (WL.cl Tryz.call141 rfl (k16_ g _ (okGridR.st0 f_g hs15) ?_) ?_))
   · first | assumption | rfl | omega | (exact Nat.le_trans hsmg (by decide))
   rintro _ whs17 ⟨r18, L1_19, rfl, hs17, ho20, hd21⟩
   replace hs17 := hs15.callF hs17
   refine ⟨_, rfl, ?_⟩
   replace hs17 := St.back [_, _] hs17
   skip
   refine WL.al hs17 Tryz.zeroValue28 rfl rfl (fun b22 _ hs23 => WL.st tbk hs23 0 rfl rfl (fun _ hs24 => WL.nil (WC.seq (fun K25 hK25 => WC.r1 hs24 [] rfl (WC.block ?_)))))
   have hM30 := (St.grp1 (L1 := L1_19) [_] ((((hs24.fb b2).fb b4).fr L1_19).fb b22))
   refine WC.lV [1, 2, 3, 4, 8, 9, 29, 34, 41] rfl hM30 (fun k_ (a_ : Hp) f => ∃ (a : Nat) (r : GridR) (L28 : Hp), k_ = (bot - top + 1).toNat - a ∧ a_ = [(b22, .cells (List.toArray [i64 r.W, i64 r.H, .slice r.Cells.A r.Cells.n r.Cells.c]) 28 (0, 0))] ++ L28 ∧ (top + (a : Int) ≤ bot + 1) ∧ (r.W = g.W ∧ r.H = g.H ∧ r.Cells.xs.length = g.Cells.xs.length) ∧ (∀ k, k < g.Cells.xs.length → cat r.Cells.xs k = partF g.dat (rollF g.dat top bot (max (min n g.H) (-g.H))) (top.toNat * g.W.toNat) (a * g.W.toNat) k) ∧ ownGridR r L28 ∧ Sub [(10, .int .i64 (top + a))] f) (((fun (a : Nat) => (bot - top + 1).toNat - a) (0))) ?_ ?_
   ·refine ⟨0, r18, L1_19, rfl, rfl, ?_, ?_, ?_, ho20, ⟨?_, trivial⟩⟩
    · omega
    · exact ⟨congrArg GridD.W hd21, congrArg GridD.H hd21, congrArg (fun d : GridD => d.Cells.length) hd21⟩
    · intro k hk; rw [Nat.zero_mul, partF_zero]; exact congrArg (fun d : GridD => cat d.Cells k) hd21
    · (refine congrArg some (congrArg (Value.int _) ?_); omega)
   rintro _ _ f w ⟨a, r, L28, rfl, rfl, p0, p1, p2, ho29, hG⟩ hF hs31
   refine WC.sub _ (hG.app hF) ?_
   clear hG hF
   replace hs31 := St.ungrp1 [_] hs31
   have hs32 := (((hs31.fb b2).fb b4).fb b22)
   have hsmr : smGrid 549755813888 r.dat := by show r.Cells.xs.length ≤ 549755813888; omega
   refine WC.seq (fun K33 hK33 => WC.r1 hs32 [] rfl ?_)
   refine WC.cq rfl (fun h34 qh34 => ?_) (fun h34 qh34 => ?_)
   ·refine WC.skip (hK33 _ _ (WC.seq (fun K35 hK35 => WC.block (WC.r1 hs32 [] rfl (WC.block ?_)))))
    have hM40 := (St.grp1 (L1 := L28) [_] ((((hs32.fb b2).fb b4).fr L28).fb b22))
    refine WC.lV [1, 2, 3, 4, 8, 9, 10, 29, 34, 41, 48, 49, 50] rfl hM40 (fun k_ (a_ : Hp) f => ∃ (c : Nat) (r : GridR) (L38 : Hp), k_ = g.W.toNat - c ∧ a_ = [(b22, .cells (List.toArray [i64 r.W, i64 r.H, .slice r.Cells.A r.Cells.n r.Cells.c]) 28 (0, 0))] ++ L38 ∧ ((c : Int) ≤ g.W) ∧ (r.W = g.W ∧ r.H = g.H ∧ r.Cells.xs.length = g.Cells.xs.length) ∧ (∀ k, k < g.Cells.xs.length → cat r.Cells.xs k = partF g.dat (rollF g.dat top bot (max (min n g.H) (-g.H))) (top.toNat * g.W.toNat) (a * g.W.toNat + c) k) ∧ ownGridR r L38 ∧ Sub [(11, .int .i64 c)] f) (((fun (c : Nat) => g.W.toNat - c) (0))) ?_ ?_
    ·refine ⟨0, r, L28, rfl, rfl, ?_, ?_, ?_, ho29, ⟨rfl, trivial⟩⟩
     · omega
     · exact p1
     · rw [Nat.add_zero]; exact p2
    rintro _ _ f w ⟨c, r, L38, rfl, rfl, q0, q1, q2, ho39, hG⟩ hF hs41
    refine WC.sub _ (hG.app hF) ?_
    clear hG hF
    replace hs41 := St.ungrp1 [_] hs41
    have hs42 := (((hs41.fb b2).fb b4).fb b22)
    have hsmr : smGrid 549755813888 r.dat := by show r.Cells.xs.length ≤ 549755813888; omega
    have hnr := ownGridR.len ‹ownGridR r _›
    refine WC.seq (fun K43 hK43 => WC.r1 hs42 [2] rfl ?_)
    refine WC.cq rfl (fun h44 qh44 => ?_) (fun h44 qh44 => ?_)
    ·have hcw : (c : Int) < g.W := by omega
     have hab : top + (a : Int) ≤ bot := by omega
     have hv0 : 0 ≤ (top + (a : Int)) * g.W := Int.mul_nonneg (by omega) (by omega)
     have hv1 : (top + (a : Int) + 1) * g.W ≤ g.H * g.W := Int.mul_le_mul_of_nonneg_right (by omega) (by omega)
     rw [Int.add_mul _ 1, Int.one_mul, Int.mul_comm g.H g.W] at hv1
     refine WC.skip (hK43 _ _ (WC.seq (fun K45 hK45 => WC.block (WC.seq (fun K46 hK46 => WC.rG 10 (hs42.rm L38) hs42 hs42 (fun _ hs47 => ?_))))))
     refine WG.rn [0, 1, 2, 3, 4, 5, 6, 7] hs47 [0, 2] rfl rfl (WG.o1 8 rfl rfl (WL.cl Tryz.call180 rfl (k15_ _) ?_))
     rintro _ whs48 ⟨rfl, hs48⟩
     replace hs48 := hs47.call0 hs48
     refine ⟨_, rfl, WL.nil ⟨hs48, ?_⟩⟩
     refine WG.tk 9 rfl (by kernel_rfl) rfl rfl rfl hs48 (fun w_ hs_ => (Run.idx Tryz.runUnderlying26 Tryz.sizeOf75 rfl rfl rfl ?_ ?_ ?_)) ?_
     · exact SlF.some_ (ownGridR.ok (B := 549755813888) ho39 ((hs_ : St _ _ _ _).ow L38) hsmr).Cells
     · first | omega | (simp only [List.length_set]; omega)
     · first | omega | (simp only [List.length_set]; omega)
     refine WG.oK rfl (WL.storeF1 (x' := blankC) (hs48.fr L38) ho39 Tryz.sizeOf75 rfl rfl rfl rfl rfl rfl rfl rfl rfl ?_ rfl (fun L49 whs50 hs50 ho51 _ => ?_))
     · first | omega | (simp only [List.length_set]; omega)
     replace hs50 := St.back [_, _, _] hs50
     refine WL.nil ⟨(hs50.rm L49), WH.dn (hK46 _ _ (WC.sr (WL.r 6 hs50 [] rfl ?_)))⟩
     refine WL.pA tbk 5 Acts.nil hs50 [] rfl rfl rfl rfl (fun g_ => by (try simp only [bf, within_iff, within_not] at g_); exact ⟨by omega, trivial⟩) (WL.nil (WC.cq rfl (fun h52 qh52 => ?_) (fun h52 qh52 => ?_)))
     ·have hin : top ≤ top + (a : Int) + (max (min n g.H) (-g.H)) ∧ top + (a : Int) + (max (min n g.H) (-g.H)) ≤ bot := by have h9 := h52; simp at h9; omega
      have hu0 : 0 ≤ (top + (a : Int) + (max (min n g.H) (-g.H))) * g.W := Int.mul_nonneg (by omega) (by omega)
      have hu1 : (top + (a : Int) + (max (min n g.H) (-g.H)) + 1) * g.W ≤ g.H * g.W := Int.mul_le_mul_of_nonneg_right (by omega) (by omega)
      rw [Int.add_mul _ 1, Int.one_mul, Int.mul_comm g.H g.W] at hu1
      refine WC.rG 21 (hs50.rm L49) hs50 hs50 (fun _ hs53 => ?_)
      refine WG.rn [0, 1, 2, 3, 4, 5, 6, 7, 8, 9, 10, 11, 12, 13, 14, 15, 16, 17] hs53 [0, 2, 2, 2] rfl rfl ?_
      refine WG.tk 18 rfl (by kernel_rfl) rfl rfl rfl hs53 (fun w_ hs_ => (Run.idx Tryz.runUnderlying26 Tryz.sizeOf75 rfl rfl rfl ?_ ?_ ?_)) ?_
      · exact SlF.some_ (SlF.st0 f_g.Cells (hs_ : St _ _ _ _))
      · first | omega | (simp only [List.length_set]; omega)
      · first | omega | (simp only [List.length_set]; omega)
      refine WG.tk 19 rfl (by kernel_rfl) rfl rfl rfl hs53 (fun w_ hs_ => (Run.loadA Tryz.isAgg75 Tryz.sizeOf75 rfl rfl (SlF.whole (SlF.st0 f_g.Cells (hs_ : St _ _ _ _)) ?_))) ?_
      · first | omega | (simp only [List.length_set]; omega)
      refine WG.tk 20 rfl (by kernel_rfl) rfl rfl rfl hs53 (fun w_ hs_ => (Run.idx Tryz.runUnderlying26 Tryz.sizeOf75 rfl rfl rfl ?_ ?_ ?_)) ?_
      · exact SlF.some_ (SlF.ofOwn ho51 ((hs_ : St _ _ _ _).ow L49))
      · first | omega | (simp only [List.length_set]; omega)
      · first | omega | (simp only [List.length_set]; omega)
      refine WG.oK rfl (WL.storeF1 (x' := _) (hs53.fr L49) ho51 Tryz.sizeOf75 rfl rfl rfl rfl rfl rfl rfl rfl rfl ?_ rfl (fun L54 whs55 hs55 ho56 _ => ?_))
      · first | omega | (simp only [List.length_set]; omega)
      replace hs55 := St.back [_, _, _] hs55
      refine WL.nil ⟨(hs55.rm L54), WH.dn (hK45 _ _ (WC.region (WL.r 3 hs55 [] rfl (WL.nil (tkN ?_)))))⟩
      have hF57 := (St.grp1 (L1 := L54) [_] ((((hs55.fb b2).fb b4).fr L54).fb b22))
      refine ⟨sbF rfl, _, hF57, _, ?_, c + 1, ⟨r.W, r.H, SlD.of ho56⟩, L54, rfl, rfl, ?_, ?_, ?_, ho56, ⟨rfl, trivial⟩⟩
      · omega
      · omega
      · exact ⟨q1.1, q1.2.1, by simp only [List.length_set]; exact q1.2.2⟩
      · intro k hk; first | (show gat encCell ((r.Cells.xs.set _ _).set _ _) k = _; rw [List.set_set]; exact roll_next (g := g.dat) (i := (top + a) * g.W + c) (by omega) rfl (by show 0 ≤ g.W; omega) (by omega) hcw hab (by rw [if_pos (by have h9 := h52; simp at h9; omega)]; rfl) (q2 k hk)) | exact roll_next (g := g.dat) (i := (top + a) * g.W + c) (by omega) rfl (by show 0 ≤ g.W; omega) (by omega) hcw hab (by rw [if_neg (by have h9 := h52; simp at h9; omega)]) (q2 k hk)
     refine WC.skip (hK45 _ _ (WC.region (WL.r 3 hs50 [] rfl (WL.nil (tkN ?_)))))
     have hF58 := (St.grp1 (L1 := L49) [_] ((((hs50.fb b2).fb b4).fr L49).fb b22))
     refine ⟨sbF rfl, _, hF58, _, ?_, c + 1, ⟨r.W, r.H, SlD.of ho51⟩, L49, rfl, rfl, ?_, ?_, ?_, ho51, ⟨rfl, trivial⟩⟩
     · omega
     · omega
     · exact ⟨q1.1, q1.2.1, by simp only [List.length_set]; exact q1.2.2⟩
     · intro k hk; first | (show gat encCell ((r.Cells.xs.set _ _).set _ _) k = _; rw [List.set_set]; exact roll_next (g := g.dat) (i := (top + a) * g.W + c) (by omega) rfl (by show 0 ≤ g.W; omega) (by omega) hcw hab (by rw [if_pos (by have h9 := h52; simp at h9; omega)]; rfl) (q2 k hk)) | exact roll_next (g := g.dat) (i := (top + a) * g.W + c) (by omega) rfl (by show 0 ≤ g.W; omega) (by omega) hcw hab (by rw [if_neg (by have h9 := h52; simp at h9; omega)]) (q2 k hk)
    refine WC.exit (hK35 _ _ (WC.region (WL.r 3 hs42 [] rfl (WL.nil (tkN ?_)))))
    have hF59 := (St.grp1 (L1 := L38) [_] ((((hs42.fb b2).fb b4).fr L38).fb b22))
    refine ⟨sbF rfl, _, hF59, _, ?_, a + 1, r, L38, rfl, rfl, ?_, ?_, ?_, ho39, ⟨?_, trivial⟩⟩
    · omega
    · omega
    · exact q1
    · intro k hk; rw [q2 k hk, show c = g.W.toNat by omega, Nat.add_mul, Nat.one_mul]
    · (refine congrArg some (congrArg (Value.int _) ?_); omega)
   refine WC.exit (hK25 _ _ (WC.sr (WL.r 1 hs32 [0] rfl (WL.st tbk hs32 1 rfl rfl (fun _ hs60 => WL.nil (WC.ret (retV1 rfl (resV.cellA tbk hs60 1 rfl rfl rfl rfl) ?_)))))))
   refine ⟨r, _, rfl, (St.keep1 (hs60.fr L28)), ?_, ?_⟩
   · exact ho29
   · exact roll_done hg ht.1 ht.2.1 ht.2.2 (m := (max (min n g.H) (-g.H))) (by omega) p1.1 p1.2.1 p1.2.2 (by show n = _ ∨ (g.H ≤ n ∧ g.H ≤ _ ∨ n ≤ -g.H ∧ _ ≤ -g.H); omega) p2
  refine WC.cq rfl (fun h61 qh61 => ?_) (fun h61 qh61 => ?_)
  ·refine WC.region (WL.r 4 hs11 [1] rfl (WL.nil ?_))
   exact hJ14 _ _ ⟨(congrArg some (congrArg (Value.int .i64) (by omega))), rfl, rfl, rfl, rfl, rfl, rfl, rfl, trivial⟩ hs11
  refine WC.skip ?_
  exact hJ14 _ _ ⟨(congrArg some (congrArg (Value.int .i64) (by omega))), rfl, rfl, rfl, rfl, rfl, rfl, rfl, trivial⟩ hs11
 refine WC.cq rfl (fun h62 qh62 => ?_) (fun h62 qh62 => ?_)
 ·refine WC.region (WL.r 3 hs7 [1] rfl (WL.nil ?_))
  exact hJ10 _ _ ⟨(congrArg some (congrArg (Value.int .i64) (by omega))), rfl, rfl, rfl, rfl, rfl, rfl, trivial⟩ hs7
 refine WC.skip ?_
 exact hJ10 _ _ ⟨(congrArg some (congrArg (Value.int .i64) (by omega))), rfl, rfl, rfl, rfl, rfl, rfl, trivial⟩ hs7
theorem mem_tabL {s : ScrD} (h : ScrFine s) {y : Int} : y ∈ tabL s ↔ y = s.X ∨ y ∈ s.Tabs := by
 have hp := h.pos
 unfold tabL
 rw [List.mem_filter, List.mem_map]
 simp only [Bool.or_eq_true, decide_eq_true_eq, List.contains_iff_mem]
 constructor
 ·exact fun h1 => h1.2
 ·intro h1
  refine ⟨?_, h1⟩
  have : 0 ≤ y ∧ y < s.W := by
   rcases h1 with h1 | h1
   ·omega
   ·have := (asc_pair.1 h.tab).2 y h1; omega
  exact ⟨y.toNat, List.mem_range.2 (by omega), by omega⟩
theorem pair_tabL {s : ScrD} : (tabL s).Pairwise (· < ·) := by
 unfold tabL
 refine List.Pairwise.sublist List.filter_sublist ?_
 rw [List.pairwise_map]
 exact List.Pairwise.imp (fun h => by omega) List.pairwise_lt_range
theorem ScrFine.tabD {s : ScrD} (h : ScrFine s) : ScrFine (tabD s) := by
 have hp := h.pos
 refine h.tabs (asc_pair.2 ⟨pair_tabL, fun y hy => ?_⟩)
 rcases (mem_tabL h).1 hy with h1 | h1
 ·omega
 ·exact (asc_pair.1 h.tab).2 y h1
theorem tabsL_asc {w : Int} (h : 1 ≤ w) : isAsc (tabsL w) 0 (w - 1) = true := by
 rw [asc_pair]
 constructor
 ·unfold tabsL
  rw [List.pairwise_map]
  exact List.Pairwise.imp (fun h => by omega) List.pairwise_lt_range
 ·intro x hx
  obtain ⟨i, hi, rfl⟩ := List.mem_map.1 hx
  have := List.mem_range.1 hi
  omega
theorem ScrFine.fresh {w h l : Int} (hs : isSize w h = true) (hl : 0 ≤ l ∧ l ≤ 100) : ScrFine (scrNew w h l) := by
 obtain ⟨h1, h2, _⟩ := isSize_bnd hs
 refine ⟨gridOk_new hs, gridOk_new hs, ⟨rfl, rfl, rfl, rfl⟩, ?_, ?_, fun h9 => Bool.noConfusion h9, (show attrOk 0 0 = true by decide), (show attrOk 0 0 = true by decide), ?_, ⟨hl, ?_⟩, tabsL_asc h1.1, rfl⟩
 ·show (0 ≤ (0 : Int) ∧ (0 : Int) < w) ∧ 0 ≤ (0 : Int) ∧ (0 : Int) < h; omega
 ·show (0 ≤ (0 : Int) ∧ (0 : Int) < w) ∧ 0 ≤ (0 : Int) ∧ (0 : Int) < h; omega
 ·show (0 ≤ (0 : Int) ∧ (0 : Int) ≤ h - 1) ∧ h - 1 < h ∧ ((0 : Int) = h - 1 → h = 1); omega
 ·exact hl.1
theorem ScrFine.reset {s : ScrD} (h : ScrFine s) : ScrFine (resetD s) := by
 have f := ScrFine.fresh h.size h.lim.1
 exact ⟨f.gM, f.gA, f.dim, f.pos, f.sav, f.wrp, f.aA, f.aS, f.reg, h.lim, f.tab, h.row⟩
def escD (s : ScrD) (b : Int) : ScrD :=
 if b = 68 then downD s else if b = 77 then upD s else if b = 69 then { downD s with X := 0 } else if b = 55 then saveD s else if b = 56 then backD s else if b = 72 then tabD s else if b = 99 then resetD s else s
theorem ScrFine.x0 {s : ScrD} (h : ScrFine s) (hw : s.Wrap = false) : ScrFine { s with X := 0 } := by
 have hp := h.pos
 exact ⟨h.gM, h.gA, h.dim, ⟨by constructor <;> (simp only; omega), hp.2⟩, h.sav, fun h9 => (by rw [show s.Wrap = true from h9] at hw; cases hw), h.aA, h.aS, h.reg, h.lim, h.tab, h.row⟩
theorem ScrFine.esc {s : ScrD} {b : Int} (h : ScrFine s) : ScrFine (escD s b) := by
 unfold escD
 repeat' (with_reducible refine fine_ite ?_ ?_)
 all_goals first | exact h.down | exact h.up | exact h.down.x0 rfl | exact h.save | exact h.back | exact h.tabD | exact h.reset | exact h
def scrEscRes (s : ScrD) (b : Int) : ScrD := if scrOk s = true then escD s b else scr0
def runeD (s : ScrD) (r : Int) : ScrD :=
 let s1 := if s.Wrap = true then { downD s with X := 0 } else s
 let s2 := putD s1 (gFill (shownD s1) s1.X s1.Y 1 1 ⟨r, s1.A⟩)
 if s1.X = s1.W - 1 then wrapD s2 (!s1.NoWrap) else { s2 with X := s1.X + 1 }
def nextTab (s : ScrD) : Int := if 0 ≤ findI (fun n => decide (s.X < n)) s.Tabs then iat s.Tabs (findI (fun n => decide (s.X < n)) s.Tabs).toNat else s.W - 1
def ctlD (s : ScrD) (b : Int) : ScrD :=
 if b = 8 then moveD s (s.X - 1) s.Y else if b = 9 then moveD s (nextTab s) s.Y else if b = 10 ∨ b = 11 ∨ b = 12 then downD s else if b = 13 then moveD s 0 s.Y else s
def scrRuneRes (s : ScrD) (r : Int) : ScrD := if scrOk s = true then (if shows r = true then runeD s r else s) else scr0
def scrCtlRes (s : ScrD) (b : Int) : ScrD := if scrOk s = true then ctlD s b else scr0
def scrGoRes (s : ScrD) (x y : Int) : ScrD := if scrOk s = true then moveD s x y else scr0
def scrCopyRes (s : ScrD) : ScrD := if scrOk s = true then s else scr0
theorem putD_eqs {s : ScrD} {g : GridD} : (putD s g).X = s.X ∧ (putD s g).W = s.W ∧ (putD s g).NoWrap = s.NoWrap ∧ (putD s g).Y = s.Y ∧ (putD s g).OnAlt = s.OnAlt ∧ (putD s g).Wrap = s.Wrap := by
 unfold putD; split <;> exact ⟨rfl, rfl, rfl, rfl, rfl, rfl⟩
theorem ScrFine.rune {s : ScrD} {r : Int} (h : ScrFine s) (hr : shows r = true) : ScrFine (runeD s r) := by
 have h1 : ScrFine (if s.Wrap = true then { downD s with X := 0 } else s) := by
  split
  ·exact h.down.x0 rfl
  ·exact h
 unfold runeD
 generalize (if s.Wrap = true then { downD s with X := 0 } else s) = s1 at h1
 have hp := h1.pos
 have hs := h1.shown
 have h2 : ScrFine (putD s1 (gFill (shownD s1) s1.X s1.Y 1 1 ⟨r, s1.A⟩)) := h1.put (gFill_ok hs.1 (by unfold cellOk; rw [hr, h1.aA]; rfl)) hs.2
 obtain ⟨e1, e2, _, _, _, _⟩ := putD_eqs (s := s1) (g := gFill (shownD s1) s1.X s1.Y 1 1 ⟨r, s1.A⟩)
 show ScrFine (if s1.X = s1.W - 1 then _ else _)
 split
 ·rename_i hx
  exact ⟨h2.gM, h2.gA, h2.dim, h2.pos, h2.sav, fun _ => by show (putD _ _).X = (putD _ _).W - 1; rw [e1, e2]; exact hx, h2.aA, h2.aS, h2.reg, h2.lim, h2.tab, h2.row⟩
 ·rename_i hx
  refine ⟨h2.gM, h2.gA, h2.dim, ⟨?_, h2.pos.2⟩, h2.sav, ?_, h2.aA, h2.aS, h2.reg, h2.lim, h2.tab, h2.row⟩
  ·show 0 ≤ s1.X + 1 ∧ s1.X + 1 < (putD _ _).W
   rw [e2]; omega
  ·intro hw
   have h3 := h2.wrp hw
   rw [e1, e2] at h3
   exact absurd h3 hx
theorem ScrFine.ctl {s : ScrD} {b : Int} (h : ScrFine s) : ScrFine (ctlD s b) := by
 unfold ctlD
 repeat' (with_reducible refine fine_ite ?_ ?_)
 all_goals first | exact h.move | exact h.down | exact h
theorem put_wrap {s : ScrD} {g : GridD} {b : Bool} : putD (wrapD s b) g = wrapD (putD s g) b := by
 unfold putD wrapD; split <;> rfl
theorem shown_wrap {s : ScrD} {b : Bool} : shownD (wrapD s b) = shownD s := rfl
theorem keep_wrap {s : ScrD} {n : Int} {b : Bool} : keepD (wrapD s b) n = wrapD (keepD s n) b := by
 by_cases h : s.OnAlt = false ∧ s.Top = 0
 ·unfold keepD; rw [if_pos h, if_pos (show (wrapD s b).OnAlt = false ∧ (wrapD s b).Top = 0 from h)]; rfl
 ·unfold keepD; rw [if_neg h, if_neg (show ¬ ((wrapD s b).OnAlt = false ∧ (wrapD s b).Top = 0) from h)]
theorem rollUp_wrap {s : ScrD} {n : Int} {b : Bool} : rollUpD (wrapD s b) n = wrapD (rollUpD s n) b := by
 unfold rollUpD rollD
 rw [keep_wrap, put_wrap, shown_wrap]; rfl
def scrDownRes (s : ScrD) : ScrD := if scrOk s = true then downD s else scr0
def scrUpRes (s : ScrD) : ScrD := if scrOk s = true then upD s else scr0
theorem k35_ (s : ScrR) (w : World) (f_s : okScrR 549755813888 w s) :
    Calls Tryz.prog 145 #[.agg (cScr s).toArray] w fun e w' => e = .returned (.agg #[i64 (shownR s).W, i64 (shownR s).H, .slice (shownR s).Cells.A (shownR s).Cells.n (shownR s).Cells.c]) ∧ St w [] [] w' := by
 have nb_s_Main_Cells := f_s.Main.Cells_n
 have nl_s_Main_Cells := f_s.Main.Cells.len
 have nb_s_Alt_Cells := f_s.Alt.Cells_n
 have nl_s_Alt_Cells := f_s.Alt.Cells.len
 have nb_s_Tabs := f_s.Tabs_n
 have nl_s_Tabs := f_s.Tabs.len
 have nb_s_Back := f_s.Back_n
 have nl_s_Back := f_s.Back.sl.len
 refine enter 9 Tryz.func145 rfl Tryz.ntmps145 rfl rfl ?_
 have hs1 := St.init w
 refine WC.sr (WL.bx hs1 rfl (fun b2 _ hs3 => WL.al hs3 Tryz.zeroValue28 rfl rfl (fun b4 _ hs5 => WL.nil (WC.seq (fun K6 hK6 => WC.r1 hs5 [1] rfl ?_)))))
 refine WC.cq rfl (fun h7 qh7 => ?_) (fun h7 qh7 => ?_)
 ·refine WC.sr (WL.r 2 hs5 [1] rfl (WL.st tbk hs5 0 rfl rfl (fun _ hs8 => WL.nil (WC.ret (tkR ?_)))))
  clear hK6
  refine retV1 rfl (resV.cellA tbk hs8 0 rfl rfl rfl rfl) (⟨congrArg Ending.returned ?_, hs8.nil⟩)
  rw [shownR_alt (by have h9 := h7; simpa using h9)]
 refine WC.skip (hK6 _ _ (WC.sr (WL.r 2 hs5 [1] rfl (WL.st tbk hs5 0 rfl rfl (fun _ hs9 => WL.nil (WC.ret (retV1 rfl (resV.cellA tbk hs9 0 rfl rfl rfl rfl) ?_)))))))
 refine ⟨congrArg Ending.returned ?_, hs9.nil⟩
 rw [shownR_main (by have h9 := h7; simpa using h9)]
theorem k36_ (s : ScrR) (L_s : Hp) (g : GridR) (L_g : Hp) (w : World) (o_s : ownScrR s L_s) (h_s : Hh w L_s) (o_g : ownGridR g L_g) (h_g : Hh w L_g) (hd_ : ((L_s ++ L_g).map (·.1)).Nodup) :
    Calls Tryz.prog 143 #[.agg (cScr s).toArray, .agg #[i64 g.W, i64 g.H, .slice g.Cells.A g.Cells.n g.Cells.c]] w fun e w' => ∃ r L1, e = .returned (.agg (cScr r).toArray) ∧ St w ((L_s ++ L_g).map (·.1)) L1 w' ∧ ownScrR r L1 ∧ r.dat = putD s.dat g.dat := by
 refine enter 12 Tryz.func143 rfl Tryz.ntmps143 rfl rfl ?_
 have hs1 := St.takes2 w L_s L_g h_s h_g hd_
 refine WC.sr (WL.bx hs1 rfl (fun b2 _ hs3 => WL.bx hs3 rfl (fun b4 _ hs5 => WL.al hs5 Tryz.zeroValue33 rfl rfl (fun b6 _ hs7 => WL.nil (WC.seq (fun K8 hK8 => WC.r1 hs7 [2] rfl ?_))))))
 refine WC.cq rfl (fun h9 qh9 => ?_) (fun h9 qh9 => ?_)
 ·refine WC.region (WL.r 2 hs7 [1] rfl (WL.st tbk hs7 2 rfl rfl (fun _ hs10 => WL.nil (hK8 _ _ (WC.sr (WL.r 1 hs10 [2] rfl (WL.st tbk hs10 0 rfl rfl (fun _ hs11 => ?_))))))))
  refine WL.nil (WC.ret (retV1 rfl (resV.cellA tbk hs11 0 rfl rfl rfl rfl) ?_))
  obtain ⟨L12, L13, L14, L15, hs20, ho16, ho17, ho18, ho19⟩ := ownScrR.op hs11 o_s
  have hs21 := (((hs20.fb b2).fb b4).fb b6)
  obtain ⟨L23, hs22, ho24⟩ := ownScrR.fl hs21 ho16 o_g ho18 ho19
  have hs25 := (((hs22.fb b2).fb b4).fb b6)
  refine ownScrR.ret rfl (St.keep1 (hs25.fr L23)) ho24 ?_
  · rw [putD, if_pos (show s.dat.OnAlt = true from by show s.OnAlt = true; have h9 := h9; simpa using h9)]; rfl
 refine WC.region (WL.r 2 hs7 [1] rfl (WL.st tbk hs7 2 rfl rfl (fun _ hs26 => WL.nil (hK8 _ _ (WC.sr (WL.r 1 hs26 [2] rfl (WL.st tbk hs26 0 rfl rfl (fun _ hs27 => ?_))))))))
 refine WL.nil (WC.ret (retV1 rfl (resV.cellA tbk hs27 0 rfl rfl rfl rfl) ?_))
 obtain ⟨L28, L29, L30, L31, hs36, ho32, ho33, ho34, ho35⟩ := ownScrR.op hs27 o_s
 have hs37 := (((hs36.fb b2).fb b4).fb b6)
 obtain ⟨L39, hs38, ho40⟩ := ownScrR.fl hs37 o_g ho33 ho34 ho35
 have hs41 := (((hs38.fb b2).fb b4).fb b6)
 refine ownScrR.ret rfl (St.keep1 (hs41.fr L39)) ho40 ?_
 · rw [putD, if_neg (show ¬ s.dat.OnAlt = true from by show ¬ s.OnAlt = true; have h9 := h9; simpa using h9)]; rfl
theorem k37_ (s : ScrR) (L_s : Hp) (y : Nat) (w : World) (o_s : ownScrR s L_s) (h_s : Hh w L_s) (hd_ : ((L_s).map (·.1)).Nodup) (hm : gridOk s.Main.dat = true) (hW : s.W = s.Main.W) (hlim : 0 ≤ s.Limit ∧ s.Limit ≤ 1048576) (hb : (s.Back.xs.length : Int) ≤ s.Limit) (hn : (y : Int) < s.Main.H) (hsmB : smScr 549755813888 s.dat) :
    Calls Tryz.prog 231 #[.agg (cScr s).toArray, .int .i64 y] w fun e w' => ∃ r L1, e = .returned (.agg (cScr r).toArray) ∧ St w ((L_s).map (·.1)) L1 w' ∧ ownScrR r L1 ∧ r.dat = keepOne s.dat y := by
 have hgb : (1 ≤ s.Main.W ∧ s.Main.W ≤ 120) ∧ (1 ≤ s.Main.H ∧ s.Main.H ≤ 120) ∧ 1 ≤ s.Main.W * s.Main.H ∧ s.Main.W * s.Main.H ≤ 4000 := gridOk_bnd hm
 have hgl : (s.Main.Cells.xs.length : Int) = s.Main.W * s.Main.H := by have h_ := hm; unfold gridOk at h_; rw [Bool.and_eq_true, Bool.and_eq_true, decide_eq_true_eq] at h_; exact h_.1.2
 obtain ⟨⟨hrn1, hrn2⟩, _, _, hrn3, hrn4⟩ := ownScrR.lens o_s
 have hv0 : 0 ≤ (y : Int) * s.W := Int.mul_nonneg (by omega) (by omega)
 have hv1 : ((y : Int) + 1) * s.W = (y : Int) * s.W + s.W := by rw [Int.add_mul, Int.one_mul]
 have hv2 : ((y : Int) + 1) * s.W ≤ s.Main.H * s.Main.W := by rw [hW]; exact Int.mul_le_mul_of_nonneg_right (by omega) (by omega)
 rw [Int.mul_comm s.Main.H] at hv2
 have hrow : (RowD.mk ((s.Main.Cells.xs.drop ((y : Int) * s.W).toNat).take ((((y : Int) * s.W) + s.W).toNat - ((y : Int) * s.W).toNat))) = rowAt s.dat.Main y := by
   have e1 : ((y : Int) * s.W).toNat = y * s.Main.W.toNat := by rw [hW]; exact toNat_mul_nat (by omega)
   have e2 : (((y : Int) * s.W) + s.W).toNat - y * s.Main.W.toNat = s.Main.W.toNat := by rw [← e1]; omega
   rw [e1, e2]; rfl
 refine enter 45 Tryz.func231 rfl Tryz.ntmps231 rfl rfl ?_
 have hs1 := St.takes1 w L_s h_s hd_
 refine WC.sr (WL.bx hs1 rfl (fun b2 _ hs3 => WL.al hs3 Tryz.zeroValue33 rfl rfl (fun b4 _ hs5 => WL.nil (WC.seq (fun K6 hK6 => WC.rG 23 ((hs5.fb b2).d1.rm L_s) (hs5.rm L_s) hs5 (fun _ hs7 => ?_))))))
 refine WG.rn [0, 1, 3, 4, 5, 6, 7, 8, 9, 10, 11, 12, 13, 14, 15, 16] (hs7.rm L_s) [1, 1, 1, 1, 1] rfl rfl ?_ (hS := ⟨by (first | omega | (simp only [List.length_append, List.length_singleton] at *; omega)), rfl, by (first | omega | (simp only [List.length_append, List.length_singleton] at *; omega)), rfl, by (first | omega | (simp only [List.length_append, List.length_singleton] at *; omega)), rfl, rfl, rfl, trivial⟩)
 refine WG.tk 17 rfl (by kernel_rfl) rfl rfl rfl (hs7.rm L_s) (fun w_ hs_ => (Run.sliceLH (((y : Int) * s.W).toNat) (((y : Int) * s.W + s.W).toNat) Tryz.runUnderlying26 Tryz.sizeOf75 rfl rfl rfl rfl ?_ ?_ ?_)) ?_
 · first | rfl | (first | omega | (simp only [List.length_append, List.length_singleton] at *; omega))
 · first | rfl | (first | omega | (simp only [List.length_append, List.length_singleton] at *; omega))
 · refine ⟨?_, ?_, ?_⟩ <;> (first | omega | (simp only [List.length_append, List.length_singleton] at *; omega))
 refine WG.o1 2 rfl rfl (WL.buildF (F := encCell) hs7 ([]) Tryz.runUnderlying26 Tryz.sizeOf75 Tryz.zeroValue75 rfl rfl rfl rfl rfl rfl rfl rfl rfl rfl rfl rfl (fun A11 c12 L8 whs9 hs9 ho10 => ?_))
 replace hs9 := St.back [_, _] hs9
 refine WL.nil ⟨((hs9.rm L8).rm L_s), WG.o1 18 rfl rfl ?_⟩
 refine WL.appendG (hs9.fr L8) ho10 (SlF.src (SlF.cutC (lo := ((y : Int) * s.W).toNat) (hi := ((y : Int) * s.W + s.W).toNat) (ownScrR.ok (B := 549755813888) o_s (hs9.ow L_s) (by assumption)).Main.Cells (by refine ⟨?_, ?_, ?_⟩ <;> (first | omega | (simp only [List.length_append, List.length_singleton] at *; omega)))) Tryz.underlying26) Tryz.underlying26 inf75 rfl rfl rfl rfl rfl rfl rfl rfl rfl rfl ?_ (fun A16 c17 L13 whs14 hs14 ho15 => ?_)
 · (try simp only [List.length_append, List.length_take, List.length_drop, List.length_nil, List.nil_append, List.length_singleton]); omega
 replace hs14 := St.back [_, _] hs14
 refine WL.nil ⟨((hs14.rm L13).rm L_s), ?_⟩
 refine WG.tk 19 rfl (by kernel_rfl) rfl rfl rfl ((hs14.rm L13).rm L_s) (fun w_ hs_ => (Run.build rfl rfl rfl rfl (built_98_0 _ _ _))) ?_
 refine WG.o1 20 rfl rfl (WL.buildSlice hs14 Tryz.runUnderlying31 Tryz.sizeOf98 Tryz.zeroValue98 rfl rfl rfl rfl rfl rfl rfl rfl rfl rfl (fun b18 whs19 hs19 => WL.nil ⟨((hs19.d1.rm L13).rm L_s), WG.o1 21 rfl rfl ?_⟩))
 obtain ⟨L20, L21, L22, L23, hs28, ho24, ho25, ho26, ho27⟩ := ownScrR.op hs19 o_s
 have hs29 := (((hs28.fb b2).fb b4).fb b18)
 obtain ⟨L30, L31, hs34, ho32, ho33⟩ := OwnN.open_ (hs29.fr L23) ho27
 have hs35 := (((hs34.fb b2).fb b4).fb b18)
 refine WL.appendG (hs35.fr L30) ho32 (srcF (F := encRowR) (ys := [(⟨SlD.of ho15⟩ : RowR)]) Tryz.underlying31 rfl rfl (hs35.own _ (nthL_mem (i := 0) rfl)).1) Tryz.underlying31 inf98 rfl rfl rfl rfl rfl rfl rfl rfl rfl rfl ?_ (fun A39 c40 L36 whs37 hs37 ho38 => ?_)
 · (try simp only [List.length_append, List.length_take, List.length_drop, List.length_nil, List.nil_append, List.length_singleton]); omega
 replace hs37 := St.back [_, _, _] hs37
 obtain ⟨L41, hs42, hb43⟩ := Bag.put (x := (⟨SlD.of ho15⟩ : RowR)) ((hs37.fr L13).fr L31) ho33 ho15
 have hs44 := (((hs42.fb b2).fb b4).fb b18)
 obtain ⟨L46, hs45, ho47⟩ := OwnN.fold ((hs44.fr L41).fr L36) ho38 hb43
 have hs48 := (((hs45.fb b2).fb b4).fb b18)
 refine WL.nil ⟨((((hs48.d1.rm L46).rm L20).rm L21).rm L22), WG.rn [22] ((((hs48.d1.rm L46).rm L20).rm L21).rm L22) [] rfl rfl (WG.oK rfl (WL.st tbk hs48 2 rfl rfl (fun _ hs49 => WL.nil ⟨(((((hs49.d1.fb b2).d1.rm L46).rm L20).rm L21).rm L22), WH.dn (hK6 _ _ (WC.seq (fun K50 hK50 => ?_)))⟩)))⟩
 refine WC.r1 hs49 [2, 2] rfl (WC.cD rfl (fun qh51 => ?_) (fun qh51 => ?_))
 ·refine WC.region ?_
  refine WL.run tbk 8 hs49 [2, 2, 2] rfl ⟨by first | omega | (simp only [List.length_append, List.length_singleton] at *; omega), rfl, rfl, rfl, trivial⟩ ?_
  have hcN := OwnN.cap ho47
  have hlN := OwnN.len_ ho47
  refine WL.val rfl rfl rfl (Run.sliceL (s.Back.xs.length + 1 - s.Limit.toNat) Tryz.runUnderlying31 Tryz.sizeOf98 rfl rfl rfl ?_ ?_) ?_
  · first | omega | (simp only [List.length_append, List.length_singleton] at *; omega)
  · refine ⟨?_, ?_, ?_⟩ <;> (first | omega | (simp only [List.length_append, List.length_singleton] at *; omega))
  obtain ⟨L52, hs53, ho54⟩ := OwnN.dropE (k := s.Back.xs.length + 1 - s.Limit.toNat) ho47 (by first | omega | (simp only [List.length_append, List.length_singleton] at *; omega)) (hs49.fr L46)
  have hs55 := (((hs53.fb b2).fb b4).fb b18)
  refine WL.r 1 hs55 [] rfl (WL.st tbk hs55 2 rfl rfl (fun _ hs56 => WL.nil (hK50 _ _ (WC.sr (WL.r 1 hs56 [2] rfl (WL.st tbk hs56 1 rfl rfl (fun _ hs57 => WL.nil ?_)))))))
  refine WC.ret (retV1 rfl (resV.cellA tbk hs57 1 rfl rfl rfl rfl) ?_)
  obtain ⟨L59, hs58, ho60⟩ := ownScrR.fl hs57 ho24 ho25 ho26 ho54
  have hs61 := (((hs58.fb b2).fb b4).fb b18)
  refine ownScrR.ret rfl (St.keep1 (hs61.fr L59)) ho60 ?_
  · rw [← keepOne_drop (k := s.Back.xs.length + 1 - s.Limit.toNat) (by show _ = (s.Back.xs.map RowR.dat).length + 1 - s.Limit.toNat; rw [List.length_map]), ← hrow]; simp only [ScrR.dat, List.map_drop, List.map_append]; rfl
 refine WC.skip (hK50 _ _ (WC.sr (WL.r 1 hs49 [2] rfl (WL.st tbk hs49 1 rfl rfl (fun _ hs62 => WL.nil (WC.ret (retV1 rfl (resV.cellA tbk hs62 1 rfl rfl rfl rfl) ?_)))))))
 obtain ⟨L64, hs63, ho65⟩ := ownScrR.fl hs62 ho24 ho25 ho26 ho47
 have hs66 := (((hs63.fb b2).fb b4).fb b18)
 refine ownScrR.ret rfl (St.keep1 (hs66.fr L64)) ho65 ?_
 · rw [← keepOne_all (by have h9 := qh51; simp only [List.length_append, List.length_singleton] at h9; show (s.Back.xs.map RowR.dat).length + 1 ≤ s.Limit.toNat; rw [List.length_map]; omega), ← hrow]; simp only [ScrR.dat, List.map_append]; rfl
theorem k38_ (s : ScrR) (L_s : Hp) (n : Int) (w : World) (o_s : ownScrR s L_s) (h_s : Hh w L_s) (hd_ : ((L_s).map (·.1)).Nodup) (hf : ScrFine s.dat) (hn : 0 ≤ n ∧ n ≤ 100000) (hsmB : smScr 549755813888 s.dat) :
    Calls Tryz.prog 183 #[.agg (cScr s).toArray, i64 n] w fun e w' => ∃ r L1, e = .returned (.agg (cScr r).toArray) ∧ St w ((L_s).map (·.1)) L1 w' ∧ ownScrR r L1 ∧ r.dat = rollUpD s.dat n := by
 have hok9 := hf.ok
 obtain ⟨hb1, hb2, hb3, hb4, hb5, hb6⟩ := scrOk_bnd hok9
 obtain ⟨hm, hma⟩ := scrOk_main hok9
 simp only [ScrR.dat, GridR.dat, List.length_map] at hb1 hb2 hb3 hb4 hb5 hb6
 refine enter 43 Tryz.func183 rfl Tryz.ntmps183 rfl rfl ?_
 have hs1 := St.takes1 w L_s h_s hd_
 refine WC.sr (WL.bx hs1 rfl (fun b2 _ hs3 => WL.al hs3 Tryz.zeroValue33 rfl rfl (fun b4 _ hs5 => WL.nil (WC.seq (fun K6 hK6 => WC.r1 hs5 [] rfl (WC.block ?_))))))
 have hM11 := (St.grp1 (L1 := L_s) [_] ((hs5.fr L_s).fb b2))
 refine WC.lV [1, 2, 4] rfl hM11 (fun k_ (a_ : Hp) f => ∃ (i : Nat) (r : ScrR) (L9 : Hp), k_ = (min n (s.Bot + 1)).toNat - i ∧ a_ = [(b2, .cells (List.toArray (cScr r)) 33 (0, 0))] ++ L9 ∧ ((i : Int) ≤ min n (s.Bot + 1)) ∧ (r.dat = keepRows s.dat i) ∧ (¬ (s.OnAlt = false ∧ s.Top = 0) → i = 0) ∧ ownScrR r L9 ∧ Sub [(5, .int .i64 i)] f) (((fun (i : Nat) => (min n (s.Bot + 1)).toNat - i) (0))) ?_ ?_
 ·refine ⟨0, s, L_s, rfl, rfl, ?_, ?_, ?_, o_s, ⟨rfl, trivial⟩⟩
  · omega
  · rw [keepRows_zero (by show ((s.Back.xs.map RowR.dat).length : Int) ≤ s.Limit; rw [List.length_map]; omega)]
  · exact fun _ => rfl
 rintro _ _ f w ⟨i, r, L9, rfl, rfl, p0, p1, p2, ho10, hG⟩ hF hs12
 refine WC.sub _ (hG.app hF) ?_
 clear hG hF
 replace hs12 := St.ungrp1 [_] hs12
 have hs13 := ((hs12.fb b4).fb b2)
 have hsmr : smScr 549755813888 r.dat := by rw [p1]; exact keepRows_sm hsmB hm (by decide) (by show s.Limit.toNat ≤ _; omega)
 have hrM : r.Main.dat = s.Main.dat := congrArg ScrD.Main p1
 have hrW : r.W = s.W := congrArg ScrD.W p1
 have hrL : r.Limit = s.Limit := congrArg ScrD.Limit p1
 have hrH : r.Main.H = s.Main.H := congrArg GridD.H hrM
 have hrV : r.Main.W = s.Main.W := congrArg GridD.W hrM
 have hrT : r.Top = s.Top := congrArg ScrD.Top p1
 have hrb : r.Bot = s.Bot := congrArg ScrD.Bot p1
 have hrO : r.OnAlt = s.OnAlt := congrArg ScrD.OnAlt p1
 have hrB : (r.Back.xs.length : Int) ≤ s.Limit := by have h9 := congrArg (fun d : ScrD => d.Back.length) p1; simp only [ScrR.dat, keepRows, lastN_len, List.length_map] at h9; omega
 refine WC.seq (fun K14 hK14 => WC.sr (WL.r 4 hs13 [] rfl ?_))
 refine WL.pA tbk 7 Acts.nil hs13 [0, 0] rfl rfl rfl rfl (fun g_ => by (try simp only [bf, within_iff, within_not] at g_); exact ⟨by omega, rfl, rfl, trivial⟩) (WL.r 1 hs13 [] rfl (WL.pA tbk 3 Acts.nil hs13 [0] rfl rfl rfl rfl (fun g_ => ⟨rfl, trivial⟩) (WL.r 1 hs13 [] rfl (WL.pA tbk 3 Acts.nil hs13 [0] rfl rfl rfl rfl (fun g_ => ⟨rfl, trivial⟩) (WL.nil (WC.cq rfl (fun h15 qh15 => ?_) (fun h15 qh15 => ?_)))))))
 ·have hc : s.OnAlt = false ∧ s.Top = 0 := by have h9 := h15; rw [hrO, hrT, hrb] at h9; simp at h9; exact ⟨h9.1.2, h9.2⟩
  have hlt : (i : Int) < min n (s.Bot + 1) := by have h9 := h15; rw [hrO, hrT, hrb] at h9; simp at h9; omega
  refine WC.skip (hK14 _ _ (WC.seq (fun K16 hK16 => WC.block (WC.region (WL.r 2 hs13 [0] rfl ?_)))))
  refine WL.cl Tryz.call231 rfl (k37_ r _ _ _ ho10 (hs13.ow L9) (St.nodupL (hs13.fr L9)) ?_ ?_ ?_ ?_ ?_ ?_) ?_
  iterate 6 first | assumption | rfl | omega | (rw [hrM]; assumption)
  rintro _ whs17 ⟨r18, L1_19, rfl, hs17, ho20, hd21⟩
  replace hs17 := St.lend (hs13.fr L9) hs17
  refine ⟨_, rfl, ?_⟩
  replace hs17 := St.back [_, _] hs17
  refine WL.st tbk hs17 0 rfl rfl (fun _ hs22 => WL.nil (hK16 _ _ (WC.region (WL.r 3 hs22 [] rfl (WL.nil (tkN ?_))))))
  have hF23 := (St.grp1 (L1 := L1_19) [_] (((hs22.fb b4).fr L1_19).fb b2))
  refine ⟨sbF rfl, _, hF23, _, ?_, i + 1, r18, L1_19, rfl, rfl, ?_, ?_, ?_, ho20, ⟨rfl, trivial⟩⟩
  · omega
  · omega
  · rw [hd21, p1]; exact keepOne_succ
  · intro h9; exact absurd hc h9
 have h1 : r.dat = keepD s.dat n := by
   unfold keepD
   by_cases hc : s.OnAlt = false ∧ s.Top = 0
   · rw [if_pos (show s.dat.OnAlt = false ∧ s.dat.Top = 0 from hc), p1]
     have h9 := h15
     rw [hrO, hrT, hrb, hc.1, hc.2] at h9
     simp at h9
     have e9 : i = (min n (s.dat.Bot + 1)).toNat := by show i = (min n (s.Bot + 1)).toNat; omega
     rw [e9]
   · rw [if_neg (show ¬ (s.dat.OnAlt = false ∧ s.dat.Top = 0) from hc), p1, p2 hc]
     exact keepRows_zero (by show ((s.Back.xs.map RowR.dat).length : Int) ≤ s.Limit; rw [List.length_map]; omega)
 have hfr : ScrFine r.dat := by rw [h1]; exact hf.keep
 have hgs : gridOk (shownR r).dat = true := by rw [shownR_dat]; exact hfr.shown.1
 have hts : 0 ≤ r.Top ∧ r.Top ≤ r.Bot ∧ r.Bot < (shownR r).H := by have h9 : (shownR r).H = (shownD r.dat).H := congrArg GridD.H shownR_dat; rw [h9, hfr.shown.2.2]; exact ⟨hfr.reg.1.1, hfr.reg.1.2, hfr.reg.2.1⟩
 refine WC.exit (hK6 _ _ (WC.seq (fun K24 hK24 => WC.rG 10 ((hs13.fb b4).d1.rm L9) (hs13.rm L9) hs13 (fun _ hs25 => ?_))))
 refine WG.rn [0, 1, 3, 4, 5, 6, 7] (hs25.rm L9) [0, 0, 0, 0] rfl rfl (WG.o1 2 rfl rfl (WL.cl Tryz.call145 rfl (k35_ r _ (ownScrR.ok (B := 549755813888) ho10 (hs25.ow L9) hsmr)) ?_))
 rintro _ whs26 ⟨rfl, hs26⟩
 replace hs26 := hs25.call0 hs26
 refine ⟨_, rfl, WL.nil ⟨(hs26.rm L9), WG.o1 8 rfl rfl (WL.cl Tryz.call144 rfl (k34_ (shownR r) _ _ _ _ (okScrR.shown (ownScrR.ok (B := 549755813888) ho10 (hs26.ow L9) hsmr)) ?_ ?_ ?_) ?_)⟩⟩
 iterate 3 first | assumption | rfl | omega | (rw [hrM]; assumption)
 rintro _ whs27 ⟨r28, L1_29, rfl, hs27, ho30, hd31⟩
 replace hs27 := hs26.callF hs27
 refine ⟨_, rfl, ?_⟩
 replace hs27 := St.back [_, _] hs27
 have hgr := hd31
 refine WL.nil ⟨((hs27.rm L1_29).rm L9), WG.o1 9 rfl rfl (WL.cl Tryz.call143 rfl (k36_ r _ r28 _ _ ho10 (hs27.ow L9) ho30 (hs27.ow L1_29) (St.nodupL (St.grp2 (L1 := L9) (L2 := L1_29) [] ((hs27.fr L1_29).fr L9)))) ?_)⟩
 rintro _ whs32 ⟨r33, L1_34, rfl, hs32, ho35, hd36⟩
 replace hs32 := St.lend (St.grp2 (L1 := L9) (L2 := L1_29) [] ((hs27.fr L1_29).fr L9)) hs32
 refine ⟨_, rfl, ?_⟩
 replace hs32 := St.back [_, _] hs32
 refine WL.nil ⟨(hs32.rm L1_34), WG.oK rfl (WL.st tbk hs32 1 rfl rfl (fun _ hs37 => WL.nil ⟨((hs37.fb b4).d1.rm L1_34), WH.dn (hK24 _ _ (WC.ret (retV1 rfl (resV.cellA tbk hs37 1 rfl rfl rfl rfl) ?_)))⟩))⟩
 refine ⟨r33, _, rfl, (St.keep1 (hs37.fr L1_34)), ?_, ?_⟩
 · exact ho35
 · refine hd36.trans ?_; rw [hgr, shownR_dat]; show putD r.dat (gRoll (shownD r.dat) r.Top r.Bot n) = _; rw [hrT, hrb, h1]; rfl
theorem k39_ (s : ScrR) (L_s : Hp) (w : World) (o_s : ownScrR s L_s) (h_s : Hh w L_s) (hd_ : ((L_s).map (·.1)).Nodup) (hf : ScrFine s.dat) (hsmB : smScr 549755813888 s.dat) :
    Calls Tryz.prog 142 #[.agg (cScr s).toArray] w fun e w' => ∃ r L1, e = .returned (.agg (cScr r).toArray) ∧ St w ((L_s).map (·.1)) L1 w' ∧ ownScrR r L1 ∧ r.dat = downD s.dat := by
 have hok9 := hf.ok
 obtain ⟨hb1, hb2, hb3, hb4, hb5, hb6⟩ := scrOk_bnd hok9
 obtain ⟨hm, hma⟩ := scrOk_main hok9
 simp only [ScrR.dat, GridR.dat, List.length_map] at hb1 hb2 hb3 hb4 hb5 hb6
 have hfw : ScrFine (wrapD s.dat false) := hf.wrap0
 refine enter 22 Tryz.func142 rfl Tryz.ntmps142 rfl rfl ?_
 have hs1 := St.takes1 w L_s h_s hd_
 refine WC.sr (WL.bx hs1 rfl (fun b2 _ hs3 => WL.al hs3 Tryz.zeroValue33 rfl rfl (fun b4 _ hs5 => WL.nil (WC.sr (WL.r 1 hs5 [] rfl (WL.st tbk hs5 1 rfl rfl (fun _ hs6 => WL.nil ?_)))))))
 refine WC.seq (fun K7 hK7 => WC.r1 hs6 [1, 1] rfl ?_)
 refine WC.cq rfl (fun h8 qh8 => ?_) (fun h8 qh8 => ?_)
 ·have e1 : s.dat.Y = s.dat.Bot := by show s.Y = s.Bot; have h9 := h8; simpa using h9
  refine WC.sr (WL.r 1 hs6 [1] rfl ?_)
  obtain ⟨L9, L10, L11, L12, hs17, ho13, ho14, ho15, ho16⟩ := ownScrR.op hs6 o_s
  have hs18 := ((hs17.fb b2).fb b4)
  obtain ⟨L20, hs19, ho21⟩ := ownScrR.fl hs18 ho13 ho14 ho15 ho16
  have hs22 := ((hs19.fb b2).fb b4)
  refine WL.cl Tryz.call183 rfl (k38_ ⟨s.W, s.H, ⟨s.Main.W, s.Main.H, SlD.of ho13⟩, ⟨s.Alt.W, s.Alt.H, SlD.of ho14⟩, s.OnAlt, s.X, s.Y, false, ⟨s.A.Fg, s.A.Bg, s.A.Bold, s.A.Under, s.A.Turn⟩, s.Top, s.Bot, s.NoWrap, s.Hide, s.SaveX, s.SaveY, ⟨s.SaveA.Fg, s.SaveA.Bg, s.SaveA.Bold, s.SaveA.Under, s.SaveA.Turn⟩, SlD.of ho15, s.Limit, SlD.ofN ho16⟩ _ _ _ (by exact ho21) (hs22.ow L20) (St.nodupL (hs22.fr L20)) ?_ ?_ ?_) ?_
  iterate 3 first | assumption | rfl | omega | exact hfw
  rintro _ whs23 ⟨r24, L1_25, rfl, hs23, ho26, hd27⟩
  replace hs23 := St.lend (hs22.fr L20) hs23
  refine ⟨_, rfl, ?_⟩
  replace hs23 := St.back [_, _] hs23
  have hd3 := hd27
  refine WL.st tbk hs23 0 rfl rfl (fun _ hs28 => WL.nil (WC.ret (tkR ?_)))
  clear hK7
  refine retV1 rfl (resV.cellA tbk hs28 0 rfl rfl rfl rfl) (⟨r24, _, rfl, (St.keep1 (hs28.fr L1_25)), ?_, ?_⟩)
  · exact ho26
  · unfold downD; first | (rw [if_pos e1, ← rollUp_wrap]; exact hd27) | (rw [if_neg e1, if_pos e2]; rfl) | (rw [if_neg e1, if_neg e2]; rfl)
 have e1 : ¬ s.dat.Y = s.dat.Bot := by show ¬ s.Y = s.Bot; have h9 := h8; simpa using h9
 refine WC.skip (hK7 _ _ (WC.seq (fun K29 hK29 => WC.r1 hs6 [1, 1] rfl ?_)))
 refine WC.cq rfl (fun h30 qh30 => ?_) (fun h30 qh30 => ?_)
 ·have e2 : s.dat.Y < s.dat.H - 1 := by show s.Y < s.H - 1; have h9 := h30; simpa using h9
  refine WC.region (WL.r 4 hs6 [1] rfl (WL.st tbk hs6 1 rfl rfl (fun _ hs31 => WL.nil (hK29 _ _ (WC.sr (WL.r 1 hs31 [1] rfl (WL.st tbk hs31 0 rfl rfl (fun _ hs32 => ?_))))))))
  refine WL.nil (WC.ret (retV1 rfl (resV.cellA tbk hs32 0 rfl rfl rfl rfl) ?_))
  obtain ⟨L33, L34, L35, L36, hs41, ho37, ho38, ho39, ho40⟩ := ownScrR.op hs32 o_s
  have hs42 := ((hs41.fb b2).fb b4)
  obtain ⟨L44, hs43, ho45⟩ := ownScrR.fl hs42 ho37 ho38 ho39 ho40
  have hs46 := ((hs43.fb b2).fb b4)
  refine ownScrR.ret rfl (St.keep1 (hs46.fr L44)) ho45 ?_
  · unfold downD; first | (rw [if_pos e1, ← rollUp_wrap]; exact rfl) | (rw [if_neg e1, if_pos e2]; rfl) | (rw [if_neg e1, if_neg e2]; rfl)
 have e2 : ¬ s.dat.Y < s.dat.H - 1 := by show ¬ s.Y < s.H - 1; have h9 := h30; simpa using h9
 refine WC.skip (hK29 _ _ (WC.sr (WL.r 1 hs6 [1] rfl (WL.st tbk hs6 0 rfl rfl (fun _ hs47 => WL.nil (WC.ret (retV1 rfl (resV.cellA tbk hs47 0 rfl rfl rfl rfl) ?_)))))))
 obtain ⟨L48, L49, L50, L51, hs56, ho52, ho53, ho54, ho55⟩ := ownScrR.op hs47 o_s
 have hs57 := ((hs56.fb b2).fb b4)
 obtain ⟨L59, hs58, ho60⟩ := ownScrR.fl hs57 ho52 ho53 ho54 ho55
 have hs61 := ((hs58.fb b2).fb b4)
 refine ownScrR.ret rfl (St.keep1 (hs61.fr L59)) ho60 ?_
 · unfold downD; first | (rw [if_pos e1, ← rollUp_wrap]; exact rfl) | (rw [if_neg e1, if_pos e2]; rfl) | (rw [if_neg e1, if_neg e2]; rfl)
theorem k40_ (s : ScrR) (w : World) (f_s : okScrR 549755813888 w s) (hsm : smScr 1048576 s.dat) :
    Calls Tryz.prog 65 #[.agg (cScr s).toArray] w fun e w' => ∃ r L1, e = .returned (.agg (cScr r).toArray) ∧ St w [] L1 w' ∧ ownScrR r L1 ∧ r.dat = scrDownRes s.dat := by
 have nb_s_Main_Cells := f_s.Main.Cells_n
 have nl_s_Main_Cells := f_s.Main.Cells.len
 have nb_s_Alt_Cells := f_s.Alt.Cells_n
 have nl_s_Alt_Cells := f_s.Alt.Cells.len
 have nb_s_Tabs := f_s.Tabs_n
 have nl_s_Tabs := f_s.Tabs.len
 have nb_s_Back := f_s.Back_n
 have nl_s_Back := f_s.Back.sl.len
 have hsmB : smScr 549755813888 s.dat := by first | assumption | exact smScr_mono hsm (by decide)
 refine enter 10 Tryz.func65 rfl Tryz.ntmps65 rfl rfl ?_
 have hs1 := St.init w
 refine WC.sr (WL.bx hs1 rfl (fun b2 _ hs3 => WL.al hs3 Tryz.zeroValue33 rfl rfl (fun b4 _ hs5 => WL.nil (WC.seq (fun K6 hK6 => WC.sr (WL.r 1 hs5 [1] rfl (WL.cl Tryz.call63 rfl (k30_ s _ (okScrR.st0 f_s hs5)) ?_)))))))
 rintro _ whs7 ⟨rfl, hs7⟩
 replace hs7 := hs5.call0 hs7
 refine ⟨_, rfl, WL.r 1 hs7 [] rfl (WL.nil (WC.cq rfl (fun h8 qh8 => ?_) (fun h8 qh8 => ?_)))⟩
 ·have hk : scrOk s.dat = false := by have h9 := h8; simpa using h9
  refine WC.sr ?_
  refine WL.val rfl rfl rfl (Run.build rfl rfl rfl rfl (built_33)) (WL.st tbk hs7 0 rfl rfl (fun _ hs9 => WL.nil (WC.ret (tkR ?_))))
  clear hK6
  refine retV1 rfl (resV.cellA tbk hs9 0 rfl rfl rfl rfl) ?_
  obtain ⟨L15, hs14, ho16⟩ := ownScrR.fl hs9 (OwnF.nil _ _) (OwnF.nil _ _) (OwnF.nil _ _) (OwnN.nil _ _ _)
  have hs17 := ((hs14.fb b2).fb b4)
  refine ownScrR.ret rfl (St.keep1 (hs17.fr L15)) ho16 ?_
  · unfold scrDownRes; rw [hk]; rfl
 have hk : scrOk s.dat = true := by have h9 := h8; simpa using h9
 have hf := ScrFine.of hk
 refine WC.skip (hK6 _ _ (WC.sr (WL.r 1 hs7 [1] rfl ?_)))
 refine WL.cl Tryz.call64 rfl (k31_ s _ (okScrR.st0 f_s hs7) ?_) ?_
 · first | assumption | rfl | omega | (rw [hk]; assumption)
 rintro _ whs18 ⟨r19, L1_20, rfl, hs18, ho21, hd22⟩
 replace hs18 := hs7.callF hs18
 refine ⟨_, rfl, ?_⟩
 replace hs18 := St.back [_, _] hs18
 have hcp := hd22
 have hfc : ScrFine (ScrR.dat _) := hcp.symm ▸ hf
 refine WL.cl Tryz.call142 rfl (k39_ r19 _ _ ho21 (hs18.ow L1_20) (St.nodupL (hs18.fr L1_20)) ?_ ?_) ?_
 iterate 2 first | assumption | rfl | omega | (rw [hd22]; assumption)
 rintro _ whs23 ⟨r24, L1_25, rfl, hs23, ho26, hd27⟩
 replace hs23 := St.lend (hs18.fr L1_20) hs23
 refine ⟨_, rfl, ?_⟩
 replace hs23 := St.back [_, _] hs23
 refine WL.st tbk hs23 0 rfl rfl (fun _ hs28 => WL.nil (WC.ret (retV1 rfl (resV.cellA tbk hs28 0 rfl rfl rfl rfl) ?_)))
 refine ⟨r24, _, rfl, (St.keep1 (hs28.fr L1_25)), ?_, ?_⟩
 · exact ho26
 · unfold scrDownRes; rw [hk]; exact hd27.trans (by rw [hcp]; rfl)
theorem k41_ (s : ScrR) (w : World) (f_s : okScrR 549755813888 w s) (hsm : smScr 1048576 s.dat) :
    Calls Tryz.prog 66 #[.agg (cScr s).toArray] w fun e w' => ∃ r L1, e = .returned (.agg (cScr r).toArray) ∧ St w [] L1 w' ∧ ownScrR r L1 ∧ r.dat = scrUpRes s.dat := by
 have nb_s_Main_Cells := f_s.Main.Cells_n
 have nl_s_Main_Cells := f_s.Main.Cells.len
 have nb_s_Alt_Cells := f_s.Alt.Cells_n
 have nl_s_Alt_Cells := f_s.Alt.Cells.len
 have nb_s_Tabs := f_s.Tabs_n
 have nl_s_Tabs := f_s.Tabs.len
 have nb_s_Back := f_s.Back_n
 have nl_s_Back := f_s.Back.sl.len
 have hsmB : smScr 549755813888 s.dat := by first | assumption | exact smScr_mono hsm (by decide)
 refine enter 33 Tryz.func66 rfl Tryz.ntmps66 rfl rfl ?_
 have hs1 := St.init w
 refine WC.sr (WL.bx hs1 rfl (fun b2 _ hs3 => WL.al hs3 Tryz.zeroValue33 rfl rfl (fun b4 _ hs5 => WL.nil (WC.seq (fun K6 hK6 => WC.sr (WL.r 1 hs5 [1] rfl (WL.cl Tryz.call63 rfl (k30_ s _ (okScrR.st0 f_s hs5)) ?_)))))))
 rintro _ whs7 ⟨rfl, hs7⟩
 replace hs7 := hs5.call0 hs7
 refine ⟨_, rfl, WL.r 1 hs7 [] rfl (WL.nil (WC.cq rfl (fun h8 qh8 => ?_) (fun h8 qh8 => ?_)))⟩
 ·have hk : scrOk s.dat = false := by have h9 := h8; simpa using h9
  refine WC.sr ?_
  refine WL.val rfl rfl rfl (Run.build rfl rfl rfl rfl (built_33)) (WL.st tbk hs7 0 rfl rfl (fun _ hs9 => WL.nil (WC.ret (tkR ?_))))
  clear hK6
  refine retV1 rfl (resV.cellA tbk hs9 0 rfl rfl rfl rfl) ?_
  obtain ⟨L15, hs14, ho16⟩ := ownScrR.fl hs9 (OwnF.nil _ _) (OwnF.nil _ _) (OwnF.nil _ _) (OwnN.nil _ _ _)
  have hs17 := ((hs14.fb b2).fb b4)
  refine ownScrR.ret rfl (St.keep1 (hs17.fr L15)) ho16 ?_
  · unfold scrUpRes; rw [hk]; rfl
 have hk : scrOk s.dat = true := by have h9 := h8; simpa using h9
 have hf := ScrFine.of hk
 have hgs : gridOk (shownR s).dat = true := by rw [shownR_dat]; exact hf.shown.1
 have hts : 0 ≤ s.Top ∧ s.Top ≤ s.Bot ∧ s.Bot < (shownR s).H := by have h9 : (shownR s).H = (shownD s.dat).H := congrArg GridD.H shownR_dat; rw [h9, hf.shown.2.2]; exact ⟨hf.reg.1.1, hf.reg.1.2, hf.reg.2.1⟩
 have hyb := hf.pos.2
 refine WC.skip (hK6 _ _ (WC.sr (WL.r 1 hs7 [1] rfl ?_)))
 refine WL.cl Tryz.call64 rfl (k31_ s _ (okScrR.st0 f_s hs7) ?_) ?_
 · first | assumption | rfl | omega | (rw [hcp]; assumption)
 rintro _ whs18 ⟨r19, L1_20, rfl, hs18, ho21, hd22⟩
 replace hs18 := hs7.callF hs18
 refine ⟨_, rfl, ?_⟩
 replace hs18 := St.back [_, _] hs18
 have hcp := hd22
 refine WL.al hs18 Tryz.zeroValue33 rfl rfl (fun b23 _ hs24 => WL.st tbk hs24 0 rfl rfl (fun _ hs25 => WL.nil (WC.sr (WL.r 1 hs25 [] rfl (WL.st tbk hs25 0 rfl rfl (fun _ hs26 => WL.nil (WC.seq (fun K27 hK27 => ?_))))))))
 refine WC.r1 hs26 [2, 2] rfl (WC.cq rfl (fun h28 qh28 => ?_) (fun h28 qh28 => ?_))
 ·have e1 : s.dat.Y = s.dat.Top := by show s.Y = s.Top; have h9 := h28; simpa using h9
  refine WC.seq (fun K29 hK29 => WC.rG 9 ((hs26.fb b4).d1.rm L1_20) (hs26.rm L1_20) hs26 (fun _ hs30 => ?_))
  refine WG.rn [0, 1, 3, 4, 5, 6] (hs30.rm L1_20) [0, 2, 2, 2] rfl rfl (WG.o1 2 rfl rfl (WL.cl Tryz.call145 rfl (k35_ s _ (okScrR.st0 f_s hs30)) ?_))
  rintro _ whs31 ⟨rfl, hs31⟩
  replace hs31 := hs30.call0 hs31
  refine ⟨_, rfl, WL.nil ⟨(hs31.rm L1_20), WG.o1 7 rfl rfl (WL.cl Tryz.call144 rfl (k34_ (shownR s) _ _ _ _ (okScrR.shown (okScrR.st0 f_s hs31)) ?_ ?_ ?_) ?_)⟩⟩
  iterate 3 first | assumption | rfl | omega | (rw [hcp]; assumption)
  rintro _ whs32 ⟨r33, L1_34, rfl, hs32, ho35, hd36⟩
  replace hs32 := hs31.callF hs32
  refine ⟨_, rfl, ?_⟩
  replace hs32 := St.back [_, _, _] hs32
  have hgr := hd36
  refine WL.nil ⟨((hs32.rm L1_34).rm L1_20), WG.o1 8 rfl rfl ?_⟩
  obtain ⟨L37, L38, L39, L40, hs45, ho41, ho42, ho43, ho44⟩ := ownScrR.op hs32 ho21
  have hs46 := (((hs45.fb b2).fb b4).fb b23)
  obtain ⟨L48, hs47, ho49⟩ := ownScrR.fl hs46 ho41 ho42 ho43 ho44
  have hs50 := (((hs47.fb b2).fb b4).fb b23)
  refine WL.cl Tryz.call143 rfl (k36_ ⟨r19.W, r19.H, ⟨r19.Main.W, r19.Main.H, SlD.of ho41⟩, ⟨r19.Alt.W, r19.Alt.H, SlD.of ho42⟩, r19.OnAlt, r19.X, r19.Y, false, ⟨r19.A.Fg, r19.A.Bg, r19.A.Bold, r19.A.Under, r19.A.Turn⟩, r19.Top, r19.Bot, r19.NoWrap, r19.Hide, r19.SaveX, r19.SaveY, ⟨r19.SaveA.Fg, r19.SaveA.Bg, r19.SaveA.Bold, r19.SaveA.Under, r19.SaveA.Turn⟩, SlD.of ho43, r19.Limit, SlD.ofN ho44⟩ _ r33 _ _ (by exact ho49) (hs50.ow L48) ho35 (hs50.ow L1_34) (St.nodupL (St.grp2 (L1 := L48) (L2 := L1_34) [] ((hs50.fr L1_34).fr L48)))) ?_
  rintro _ whs51 ⟨r52, L1_53, rfl, hs51, ho54, hd55⟩
  replace hs51 := St.lend (St.grp2 (L1 := L48) (L2 := L1_34) [] ((hs50.fr L1_34).fr L48)) hs51
  refine ⟨_, rfl, ?_⟩
  replace hs51 := St.back [_, _, _] hs51
  have hpt := hd55
  refine WL.nil ⟨(hs51.rm L1_53), WG.oK rfl (WL.st tbk hs51 1 rfl rfl (fun _ hs56 => WL.nil ⟨((hs56.fb b4).d1.rm L1_53), WH.dn (hK29 _ _ (WC.ret (tkR ?_)))⟩))⟩
  clear hK27
  refine retV1 rfl (resV.cellA tbk hs56 1 rfl rfl rfl rfl) (⟨r52, _, rfl, (St.keep1 (hs56.fr L1_53)), ?_, ?_⟩)
  · exact ho54
  · unfold scrUpRes; rw [hk]; show _ = upD s.dat; unfold upD; rw [if_pos e1]; refine hpt.trans ?_; rw [hgr, shownR_dat]; show putD (wrapD (ScrR.dat _) false) _ = _; rw [put_wrap, hcp]; rfl
 have e1 : ¬ s.dat.Y = s.dat.Top := by show ¬ s.Y = s.Top; have h9 := h28; simpa using h9
 refine WC.skip (hK27 _ _ (WC.seq (fun K57 hK57 => WC.r1 hs26 [2] rfl ?_)))
 refine WC.cq rfl (fun h58 qh58 => ?_) (fun h58 qh58 => ?_)
 ·have e2 : s.dat.Y > 0 := by show s.Y > 0; have h9 := h58; simpa using h9
  refine WC.region (WL.run tbk 4 hs26 [0] rfl ⟨?_, rfl, trivial⟩ ?_)
  · (have e9 := congrArg ScrD.Y hcp; simp only [ScrR.dat] at e9 hyb hk; have e8 : s.H ≤ 120 := (isSize_bnd hf.size).2.1.2; constructor <;> omega)
  refine WL.st tbk hs26 0 rfl rfl (fun _ hs59 => WL.nil (hK57 _ _ (WC.sr (WL.r 1 hs59 [0] rfl (WL.st tbk hs59 1 rfl rfl (fun _ hs60 => WL.nil (WC.ret ?_)))))))
  refine retV1 rfl (resV.cellA tbk hs60 1 rfl rfl rfl rfl) ?_
  obtain ⟨L61, L62, L63, L64, hs69, ho65, ho66, ho67, ho68⟩ := ownScrR.op hs60 ho21
  have hs70 := (((hs69.fb b2).fb b4).fb b23)
  obtain ⟨L72, hs71, ho73⟩ := ownScrR.fl hs70 ho65 ho66 ho67 ho68
  have hs74 := (((hs71.fb b2).fb b4).fb b23)
  refine ownScrR.ret rfl (St.keep1 (hs74.fr L72)) ho73 ?_
  · unfold scrUpRes; rw [hk]; show _ = upD s.dat; unfold upD; rw [if_neg e1, if_pos e2, ← hcp]; rfl
 have e2 : ¬ s.dat.Y > 0 := by show ¬ s.Y > 0; have h9 := h58; simpa using h9
 refine WC.skip (hK57 _ _ (WC.sr (WL.r 1 hs26 [0] rfl (WL.st tbk hs26 1 rfl rfl (fun _ hs75 => WL.nil (WC.ret (retV1 rfl (resV.cellA tbk hs75 1 rfl rfl rfl rfl) ?_)))))))
 obtain ⟨L76, L77, L78, L79, hs84, ho80, ho81, ho82, ho83⟩ := ownScrR.op hs75 ho21
 have hs85 := (((hs84.fb b2).fb b4).fb b23)
 obtain ⟨L87, hs86, ho88⟩ := ownScrR.fl hs85 ho80 ho81 ho82 ho83
 have hs89 := (((hs86.fb b2).fb b4).fb b23)
 refine ownScrR.ret rfl (St.keep1 (hs89.fr L87)) ho88 ?_
 · unfold scrUpRes; rw [hk]; show _ = upD s.dat; unfold upD; rw [if_neg e1, if_neg e2, ← hcp]; rfl
theorem k42_ (s : ScrR) (L_s : Hp) (w : World) (o_s : ownScrR s L_s) (h_s : Hh w L_s) (hd_ : ((L_s).map (·.1)).Nodup) :
    Calls Tryz.prog 67 #[.agg (cScr s).toArray] w fun e w' => ∃ r L1, e = .returned (.agg (cScr r).toArray) ∧ St w ((L_s).map (·.1)) L1 w' ∧ ownScrR r L1 ∧ r.dat = saveD s.dat := by
 refine enter 13 Tryz.func67 rfl Tryz.ntmps67 rfl rfl ?_
 have hs1 := St.takes1 w L_s h_s hd_
 refine WC.sr (WL.bx hs1 rfl (fun b2 _ hs3 => WL.al hs3 Tryz.zeroValue33 rfl rfl (fun b4 _ hs5 => WL.nil (WC.sr (WL.r 3 hs5 [1] rfl (WL.st tbk hs5 1 rfl rfl (fun _ hs6 => WL.nil ?_)))))))
 refine WC.sr (WL.r 3 hs6 [1] rfl (WL.st tbk hs6 1 rfl rfl (fun _ hs7 => WL.nil (WC.sr (WL.r 3 hs7 [1] rfl (WL.st tbk hs7 1 rfl rfl (fun _ hs8 => WL.nil ?_)))))))
 refine WC.sr (WL.r 1 hs8 [1] rfl (WL.st tbk hs8 0 rfl rfl (fun _ hs9 => WL.nil (WC.ret (retV1 rfl (resV.cellA tbk hs9 0 rfl rfl rfl rfl) ?_)))))
 obtain ⟨L10, L11, L12, L13, hs18, ho14, ho15, ho16, ho17⟩ := ownScrR.op hs9 o_s
 have hs19 := ((hs18.fb b2).fb b4)
 obtain ⟨L21, hs20, ho22⟩ := ownScrR.fl hs19 ho14 ho15 ho16 ho17
 have hs23 := ((hs20.fb b2).fb b4)
 refine ownScrR.ret rfl (St.keep1 (hs23.fr L21)) ho22 ?_
 · rfl
theorem k43_ (s : ScrR) (L_s : Hp) (w : World) (o_s : ownScrR s L_s) (h_s : Hh w L_s) (hd_ : ((L_s).map (·.1)).Nodup) :
    Calls Tryz.prog 68 #[.agg (cScr s).toArray] w fun e w' => ∃ r L1, e = .returned (.agg (cScr r).toArray) ∧ St w ((L_s).map (·.1)) L1 w' ∧ ownScrR r L1 ∧ r.dat = backD s.dat := by
 refine enter 14 Tryz.func68 rfl Tryz.ntmps68 rfl rfl ?_
 have hs1 := St.takes1 w L_s h_s hd_
 refine WC.sr (WL.bx hs1 rfl (fun b2 _ hs3 => WL.al hs3 Tryz.zeroValue33 rfl rfl (fun b4 _ hs5 => WL.nil (WC.sr (WL.r 3 hs5 [1] rfl (WL.st tbk hs5 1 rfl rfl (fun _ hs6 => WL.nil ?_)))))))
 refine WC.sr (WL.r 3 hs6 [1] rfl (WL.st tbk hs6 1 rfl rfl (fun _ hs7 => WL.nil (WC.sr (WL.r 3 hs7 [1] rfl (WL.st tbk hs7 1 rfl rfl (fun _ hs8 => WL.nil ?_)))))))
 refine WC.sr (WL.r 1 hs8 [] rfl (WL.st tbk hs8 1 rfl rfl (fun _ hs9 => WL.nil (WC.sr (WL.r 1 hs9 [1] rfl (WL.st tbk hs9 0 rfl rfl (fun _ hs10 => WL.nil ?_)))))))
 refine WC.ret (retV1 rfl (resV.cellA tbk hs10 0 rfl rfl rfl rfl) ?_)
 obtain ⟨L11, L12, L13, L14, hs19, ho15, ho16, ho17, ho18⟩ := ownScrR.op hs10 o_s
 have hs20 := ((hs19.fb b2).fb b4)
 obtain ⟨L22, hs21, ho23⟩ := ownScrR.fl hs20 ho15 ho16 ho17 ho18
 have hs24 := ((hs21.fb b2).fb b4)
 refine ownScrR.ret rfl (St.keep1 (hs24.fr L22)) ho23 ?_
 · rfl
theorem part_next {g : GridD} {f : Nat → CellD} {lo a j k : Nat} {xs : List CellD} {v : CellD} (hj : j = lo + a) (hl : j < xs.length) (hv : v = f (lo + a)) (hq : cat xs k = partF g f lo a k) : cat (xs.set j v) k = partF g f lo (a + 1) k := by
 subst hj
 rw [partF_one]
 show gat encCell (xs.set (lo + a) v) k = _
 rw [gat_set2 hl]
 split
 ·rename_i hk; subst hk; exact hv
 ·exact hq
theorem part_skip {g : GridD} {f : Nat → CellD} {a k : Nat} {xs : List CellD} (hf : f a = cat g.Cells a) (hq : cat xs k = partF g f 0 a k) : cat xs k = partF g f 0 (a + 1) k := by
 rw [partF_one, hq]
 split
 ·rename_i hk
  rw [Nat.zero_add] at hk
  subst hk
  unfold partF
  rw [if_neg (by omega)]; exact hf.symm
 ·rfl
theorem part_done {g : GridD} {f : Nat → CellD} {lo a : Nat} {w h : Int} {xs : List CellD} (hw : w = g.W) (hh : h = g.H) (hl : xs.length = g.Cells.length) (ho : ∀ k, k < g.Cells.length → ¬ (lo ≤ k ∧ k < lo + a) → f k = cat g.Cells k)
  (hp : ∀ k, k < g.Cells.length → cat xs k = partF g f lo a k) : (⟨w, h, xs⟩ : GridD) = gmap g f := by
 subst hw hh
 unfold gmap
 congr 1
 refine ext_gat (F := encCell) hl fun k hk => ?_
 have h1 := hp k hk
 unfold partF at h1
 by_cases h2 : lo ≤ k ∧ k < lo + a
 ·rw [if_pos h2] at h1; exact h1
 ·rw [if_neg h2] at h1; rw [ho k hk h2]; exact h1
theorem dm_eq {w k : Nat} : k = k / w * w + k % w := by
 have := Nat.div_add_mod k w
 rw [Nat.mul_comm] at this
 exact this.symm
theorem shiftF_at {g : GridD} {x y n : Int} {a : Nat} (h0 : 0 ≤ x) (h1 : 0 ≤ y) (h2 : x + a < g.W) : shiftF g x y n (y.toNat * g.W.toNat + x.toNat + a) = if x ≤ x + a - n ∧ x + a - n < g.W then cat g.Cells (y.toNat * g.W.toNat + (x + a - n).toNat) else blankC := by
 obtain ⟨e1, e2⟩ := at_div (w := g.W.toNat) (y := y.toNat) (x := x.toNat + a) (by omega)
 unfold shiftF
 rw [Nat.add_assoc, e1, e2, if_pos ⟨by omega, by omega⟩, show ((x.toNat + a : Nat) : Int) = x + a by omega]
theorem shiftF_out {g : GridD} {x y n : Int} {k : Nat} (hw : 0 < g.W.toNat) (h0 : 0 ≤ x) (h1 : 0 ≤ y) (hx : x < g.W) (h : ¬ (y.toNat * g.W.toNat + x.toNat ≤ k ∧ k < y.toNat * g.W.toNat + x.toNat + (g.W - x).toNat)) : shiftF g x y n k = cat g.Cells k := by
 unfold shiftF
 rw [if_neg]
 rintro ⟨h2, h3⟩
 apply h
 have h4 := dm_eq (w := g.W.toNat) (k := k)
 have h5 := Nat.mod_lt k hw
 have h6 : k / g.W.toNat = y.toNat := by omega
 rw [h6] at h4
 omega
theorem shift_big {g : GridD} {x y n m : Int} (h0 : 0 ≤ x) (hn : n = m ∨ (g.W ≤ n ∧ g.W ≤ m ∨ n ≤ -g.W ∧ m ≤ -g.W)) : gShift g x y n = gShift g x y m := by
 rcases hn with rfl | hn
 ·rfl
 ·unfold gShift
  congr 1
  funext k
  unfold shiftF
  split
  ·rename_i h
   have h5 : ((k % g.W.toNat : Nat) : Int) < g.W ∨ g.W ≤ 0 := by
    rcases Nat.eq_zero_or_pos g.W.toNat with h6 | h6
    ·omega
    ·have := Nat.mod_lt k h6; omega
   rw [if_neg (by omega), if_neg (by omega)]
  ·rfl
theorem shift_done {g : GridD} {x y n m w h : Int} {a : Nat} {xs : List CellD} (h0 : 0 ≤ x ∧ x < g.W) (h1 : 0 ≤ y) (ha : (a : Int) = g.W - x) (hw : w = g.W) (hh : h = g.H) (hl : xs.length = g.Cells.length) (hm : n = m ∨ (g.W ≤ n ∧ g.W ≤ m ∨ n ≤ -g.W ∧ m ≤ -g.W))
  (hp : ∀ k, k < g.Cells.length → cat xs k = partF g (shiftF g x y m) (y.toNat * g.W.toNat + x.toNat) a k) : (⟨w, h, xs⟩ : GridD) = gShift g x y n := by
 rw [shift_big h0.1 hm]
 exact part_done hw hh hl (fun k _ hk => shiftF_out (by omega) h0.1 h1 h0.2 (by rw [show (g.W - x).toNat = a by omega]; exact hk)) hp
theorem fill_clear {g : GridD} {x y n : Int} (h0 : 0 ≤ x ∧ x < g.W) (h1 : 0 ≤ y) : gFill g x y n 1 blankC = gmap g (clearF g (y * g.W + x) (min (y * g.W + x + n) ((y + 1) * g.W))) := by
 unfold gFill
 congr 1
 funext k
 unfold fillFn clearF
 have hw : 0 < g.W.toNat := by omega
 have h4 := dm_eq (w := g.W.toNat) (k := k)
 have h5 := Nat.mod_lt k hw
 generalize hq : k / g.W.toNat = q at h4 ⊢
 generalize hr : k % g.W.toNat = r at h4 h5 ⊢
 have e1 : (k : Int) = q * g.W + r := by
  rw [h4, Int.natCast_add, Int.natCast_mul, Int.toNat_of_nonneg (by omega)]
 have e2 : (y + 1) * g.W = y * g.W + g.W := by rw [Int.add_mul, Int.one_mul]
 have hiff : ((x ≤ (r : Int) ∧ (r : Int) < x + n) ∧ y ≤ (q : Int) ∧ (q : Int) < y + 1) ↔ y * g.W + x ≤ (k : Int) ∧ (k : Int) < min (y * g.W + x + n) ((y + 1) * g.W) := by
  constructor
  ·rintro ⟨h6, h7⟩
   have h8 : (q : Int) = y := by omega
   rw [e1, h8, e2]
   omega
  ·rintro ⟨h6, h7⟩
   have h8 : (q : Int) = y := by
    rcases Int.lt_or_le (q : Int) y with h9 | h9
    ·have := Int.mul_le_mul_of_nonneg_right (show (q : Int) + 1 ≤ y by omega) (show 0 ≤ g.W by omega)
     rw [Int.add_mul, Int.one_mul] at this
     omega
    ·rcases Int.lt_or_le y (q : Int) with h10 | h10
     ·have := Int.mul_le_mul_of_nonneg_right (show y + 1 ≤ (q : Int) by omega) (show 0 ≤ g.W by omega)
      rw [e2] at this
      omega
     ·omega
   rw [e1, h8, e2] at h7
   rw [e1, h8] at h6
   omega
 by_cases h : y * g.W + x ≤ (k : Int) ∧ (k : Int) < min (y * g.W + x + n) ((y + 1) * g.W)
 ·rw [if_pos h, if_pos (hiff.2 h)]
 ·rw [if_neg h, if_neg (fun h9 => h (hiff.1 h9))]
theorem clearF_out {g : GridD} {a b : Int} {k : Nat} (h : ¬ (a ≤ (k : Int) ∧ (k : Int) < b)) : clearF g a b k = cat g.Cells k := by unfold clearF; rw [if_neg h]
theorem clearF_in {g : GridD} {a b : Int} {k : Nat} (h : a ≤ (k : Int) ∧ (k : Int) < b) : clearF g a b k = blankC := by unfold clearF; rw [if_pos h]
theorem int_not {l : List Int} {x : Int} (h : ∀ j, j < l.length → iat l j ≠ x) : ¬ x ∈ l := by
 intro hx
 obtain ⟨j, hj, rfl⟩ := List.mem_iff_getElem.1 hx
 exact h j hj (gat_lt (F := encI) hj)
def tabTo (s : ScrD) (i : Nat) : List Int := ((List.range i).map (fun i : Nat => (i : Int))).filter (fun x => decide (x = s.X) || s.Tabs.contains x)
theorem tabTo_in {s : ScrD} {i : Nat} (h : (i : Int) = s.X ∨ s.Tabs.contains (i : Int) = true) : tabTo s (i + 1) = tabTo s i ++ [(i : Int)] := by
 unfold tabTo
 rw [List.range_succ, List.map_append, List.filter_append]
 congr 1
 show List.filter _ [(i : Int)] = _
 rw [List.filter_cons, if_pos (by rw [Bool.or_eq_true, decide_eq_true_eq]; exact h)]
 rfl
theorem tabTo_out {s : ScrD} {i : Nat} (h : ¬ ((i : Int) = s.X ∨ s.Tabs.contains (i : Int) = true)) : tabTo s (i + 1) = tabTo s i := by
 unfold tabTo
 rw [List.range_succ, List.map_append, List.filter_append]
 show _ ++ List.filter _ [(i : Int)] = _
 rw [List.filter_cons, if_neg (by rw [Bool.or_eq_true, decide_eq_true_eq]; exact h)]
 exact List.append_nil _
theorem tabTo_le {s : ScrD} {i : Nat} : (tabTo s i).length ≤ i := by
 refine Nat.le_trans (List.length_filter_le _ _) ?_
 rw [List.length_map, List.length_range]; exact Nat.le_refl _
structure DelTo (p : Int → Bool) (s : List Int) (j m : Nat) (zs : List Int) : Prop where
 len : zs.length = s.length
 pre : zs.take m = (s.take j).filter (fun x => !p x)
 rest : ∀ k, j ≤ k → k < s.length → iat zs k = iat s k
theorem DelTo.keep {p : Int → Bool} {s zs : List Int} {j m : Nat} (h : DelTo p s j m zs) (hj : j < s.length) (hm : m < j) (hp : p (iat zs j) = false) : DelTo p s (j + 1) (m + 1) (zs.set m (iat zs j)) := by
 have hl := h.len
 refine ⟨by rw [List.length_set]; exact hl, ?_, fun k h1 h2 => ?_⟩
 ·rw [List.take_add_one, List.take_set_of_le (Nat.le_refl _), List.getElem?_set_self (by omega), h.pre, List.take_add_one (l := s), gat_get (F := encI) hj, List.filter_append]
  congr 1
  show _ = List.filter _ [iat s j]
  rw [← h.rest j (Nat.le_refl _) hj, List.filter_cons, if_pos (by rw [hp]; decide)]
  rfl
 ·show gat encI (zs.set m _) k = _
  rw [gat_set2 (by omega), if_neg (by omega)]
  exact h.rest k (by omega) h2
theorem DelTo.skip {p : Int → Bool} {s zs : List Int} {j m : Nat} (h : DelTo p s j m zs) (hj : j < s.length) (hp : p (iat zs j) = true) : DelTo p s (j + 1) m zs := by
 refine ⟨h.len, ?_, fun k h1 h2 => h.rest k (by omega) h2⟩
 rw [h.pre, List.take_add_one (l := s), gat_get (F := encI) hj, List.filter_append]
 show _ = _ ++ List.filter _ [iat s j]
 rw [← h.rest j (Nat.le_refl _) hj, List.filter_cons, if_neg (by rw [hp]; decide)]
 exact (List.append_nil _).symm
theorem DelTo.all {p : Int → Bool} {s zs : List Int} {j m : Nat} (h : DelTo p s j m zs) (hj : s.length ≤ j) : zs.take m = s.filter (fun x => !p x) := by
 rw [h.pre, List.take_of_length_le hj]
theorem fine_smB {s : ScrD} {B : Nat} (h : ScrFine s) (hB : 20220 ≤ B) : smScr B s := totScr_sm (Nat.le_trans (scr_tot h.ok) hB)
theorem clamp_eq {x h : Int} (h0 : 0 ≤ h) : clampI x h = if x < 0 then 0 else min x h := by unfold clampI; split <;> omega
theorem ScrFine.reg2 {s : ScrD} {l : List Int} (h : ScrFine s) (hl : areArgs l = true) (hr : argI l 0 1 - 1 < argI l 1 s.H - 1 ∧ argI l 1 s.H - 1 < s.H) : ScrFine { s with Top := argI l 0 1 - 1, Bot := argI l 1 s.H - 1 } := by
 have b := gridOk_bnd h.gM
 obtain ⟨d1, d2, _⟩ := h.dim
 have h1 := argI_pos (k := 0) hl (d := 1) (by omega)
 exact ⟨h.gM, h.gA, h.dim, h.pos, h.sav, h.wrp, h.aA, h.aS, ⟨by constructor <;> (simp only; omega), hr.2, fun he => by simp only at he; omega⟩, h.lim, h.tab, h.row⟩
theorem filt_in {p : Int → Bool} {l : List Int} {i : Nat} (h : i < l.length) (hp : p (iat l i) = true) : (l.take (i + 1)).filter p = (l.take i).filter p ++ [iat l i] := by
 rw [List.take_add_one, gat_get (F := encI) h, List.filter_append]
 congr 1
 show List.filter p [iat l i] = _
 rw [List.filter_cons, if_pos hp]; rfl
theorem filt_out {p : Int → Bool} {l : List Int} {i : Nat} (h : i < l.length) (hp : ¬ p (iat l i) = true) : (l.take (i + 1)).filter p = (l.take i).filter p := by
 rw [List.take_add_one, gat_get (F := encI) h, List.filter_append]
 show _ ++ List.filter p [iat l i] = _
 rw [List.filter_cons, if_neg hp]
 exact List.append_nil _
def tabP (s : ScrD) (k : Int) (x : Int) : Bool := (decide (k = 0) && !decide (x = s.X)) || (!decide (k = 0) && !decide (k = 3))
theorem tabsD_P {s : ScrD} {k : Int} : tabsD s k = { s with Tabs := s.Tabs.filter (tabP s k) } := rfl
theorem tabP_iff {s : ScrD} {k x : Int} : tabP s k x = true ↔ (k = 0 ∧ ¬ x = s.X) ∨ (¬ k = 0 ∧ ¬ k = 3) := by
 unfold tabP
 simp only [Bool.or_eq_true, Bool.and_eq_true, decide_eq_true_eq, Bool.not_eq_true', decide_eq_false_iff_not]
def modeTo (s : ScrD) (l : List Int) (b : Int) (i : Nat) : ScrD := if b = 104 ∨ b = 108 then modesD s (l.take i) (decide (b = 104)) else s
theorem modeTo_zero {s : ScrD} {l : List Int} {b : Int} : modeTo s l b 0 = s := by unfold modeTo; split <;> rfl
theorem modeTo_next {s : ScrD} {l : List Int} {b : Int} {i : Nat} (hb : b = 104 ∨ b = 108) (h : i < l.length) : modeTo s l b (i + 1) = modeD (modeTo s l b i) (iat l i) (decide (b = 104)) := by
 unfold modeTo; rw [if_pos hb, if_pos hb]; exact modesD_take h
theorem modeTo_same {s : ScrD} {l : List Int} {b : Int} {i : Nat} (hb : ¬ (b = 104 ∨ b = 108)) : modeTo s l b (i + 1) = modeTo s l b i := by
 unfold modeTo; rw [if_neg hb, if_neg hb]
theorem ScrFine.modeT {s : ScrD} {l : List Int} {b : Int} {i : Nat} (h : ScrFine s) : ScrFine (modeTo s l b i) := by
 show ScrFine (if _ then _ else _)
 split
 ·exact h.modes
 ·exact h
theorem modeTo_all {s : ScrD} {l : List Int} {b : Int} {i : Nat} (hi : l.length ≤ i) : modeTo s l b i = seqD s true l b := by
 unfold modeTo seqD
 rw [List.take_of_length_le hi, if_neg (show ¬ true = false by decide)]; rfl
theorem scrGo_eq {s : ScrD} {x y : Int} (h : ScrFine s) : scrGoRes s x y = moveD s x y := by unfold scrGoRes; rw [if_pos h.ok]
theorem gridRes_eq {w h : Int} (hs : isSize w h = true) : gridRes w h = gridNew w h := by unfold gridRes; rw [hs]; rfl
theorem csi_not {s : ScrD} {mark : Bool} {l : List Int} {b : Int} (h : ¬ (scrOk s = true ∧ areArgs l = true)) : scrCsiRes s mark l b = scr0 := by
 unfold scrCsiRes csiOk
 rw [if_neg]
 rw [Bool.and_eq_true]
 exact fun h9 => h ⟨h9.2, h9.1⟩
theorem csi_yes {s : ScrD} {mark : Bool} {l : List Int} {b : Int} (h : scrOk s = true) (hl : areArgs l = true) : scrCsiRes s mark l b = seqD s mark l b := by
 unfold scrCsiRes csiOk
 rw [if_pos (by rw [Bool.and_eq_true]; exact ⟨hl, h⟩)]
theorem k44_ (A_l : Option Addr) (n_l c_l : Nat) (l : List Int) (d : Int) (w : World) (f_l : SlF encI w A_l n_l l) (hn : n_l ≤ 549755813888) :
    Calls Tryz.prog 177 #[.slice A_l n_l c_l, i64 0, i64 d] w fun e w' => e = .returned (i64 (argI l 0 d)) ∧ St w [] [] w' := by
 have hl := f_l.len
 refine enter 22 Tryz.func177 rfl Tryz.ntmps177 rfl rfl ?_
 have hs1 := St.init w
 refine WC.r1 hs1 [] rfl (WC.seq (fun K2 hK2 => WC.r1 hs1 [] rfl ?_))
 refine WC.cq rfl (fun h3 qh3 => ?_) (fun h3 qh3 => ?_)
 ·have hp : ¬ 0 < l.length := by have h9 := h3; simp at h9; omega
  refine WC.r1 hs1 [] rfl (WC.ret (tkR ?_))
  clear hK2
  refine rtv rfl rfl hs1 ?_
  rw [show argI l 0 d = d from by unfold argI; rw [if_neg (by exact fun h => hp h.1)]]
 have hp : 0 < l.length := by have h9 := h3; simp at h9; omega
 refine WC.skip (hK2 _ _ (WC.seq (fun K4 hK4 => WC.sr (WL.r 2 hs1 [] rfl ?_))))
 refine WL.val rfl rfl rfl (Run.idx Tryz.runUnderlying23 Tryz.sizeOf3 rfl rfl rfl ?_ ?_ ?_) ?_
 · exact SlF.some_ (SlF.st0 f_l hs1)
 · omega
 · omega
 refine WL.val rfl rfl rfl (Run.load Tryz.isAgg3 rfl rfl (SlF.one1 (SlF.st0 f_l hs1) ?_ rfl)) ?_
 · omega
 refine WL.r 1 hs1 [] rfl (WL.nil (WC.cq rfl (fun h5 qh5 => ?_) (fun h5 qh5 => ?_)))
 ·have hz : iat l 0 = 0 := by have h9 := h5; simpa using h9
  refine WC.r1 hs1 [] rfl (WC.ret (tkR ?_))
  clear hK4
  refine rtv rfl rfl hs1 ?_
  rw [show argI l 0 d = d from by unfold argI; rw [if_neg (by exact fun h => h.2 hz)]]
 have hz : ¬ iat l 0 = 0 := by have h9 := h5; simpa using h9
 refine WC.skip (hK4 _ _ (WC.sr (WL.r 2 hs1 [] rfl ?_)))
 refine WL.val rfl rfl rfl (Run.idx Tryz.runUnderlying23 Tryz.sizeOf3 rfl rfl rfl ?_ ?_ ?_) ?_
 · exact SlF.some_ (SlF.st0 f_l hs1)
 · omega
 · omega
 refine WL.val rfl rfl rfl (Run.load Tryz.isAgg3 rfl rfl (SlF.one1 (SlF.st0 f_l hs1) ?_ rfl)) ?_
 · omega
 refine WL.r 1 hs1 [] rfl (WL.nil (WC.ret (rtv rfl rfl hs1 ?_)))
 rw [show argI l 0 d = iat l 0 from by unfold argI; rw [if_pos ⟨hp, hz⟩]]; rfl
theorem k45_ (A_l : Option Addr) (n_l c_l : Nat) (l : List Int) (d : Int) (w : World) (f_l : SlF encI w A_l n_l l) (hn : n_l ≤ 549755813888) :
    Calls Tryz.prog 177 #[.slice A_l n_l c_l, i64 1, i64 d] w fun e w' => e = .returned (i64 (argI l 1 d)) ∧ St w [] [] w' := by
 have hl := f_l.len
 refine enter 22 Tryz.func177 rfl Tryz.ntmps177 rfl rfl ?_
 have hs1 := St.init w
 refine WC.r1 hs1 [] rfl (WC.seq (fun K2 hK2 => WC.r1 hs1 [] rfl ?_))
 refine WC.cq rfl (fun h3 qh3 => ?_) (fun h3 qh3 => ?_)
 ·have hp : ¬ 1 < l.length := by have h9 := h3; simp at h9; omega
  refine WC.r1 hs1 [] rfl (WC.ret (tkR ?_))
  clear hK2
  refine rtv rfl rfl hs1 ?_
  rw [show argI l 1 d = d from by unfold argI; rw [if_neg (by exact fun h => hp h.1)]]
 have hp : 1 < l.length := by have h9 := h3; simp at h9; omega
 refine WC.skip (hK2 _ _ (WC.seq (fun K4 hK4 => WC.sr (WL.r 2 hs1 [] rfl ?_))))
 refine WL.val rfl rfl rfl (Run.idx Tryz.runUnderlying23 Tryz.sizeOf3 rfl rfl rfl ?_ ?_ ?_) ?_
 · exact SlF.some_ (SlF.st0 f_l hs1)
 · omega
 · omega
 refine WL.val rfl rfl rfl (Run.load Tryz.isAgg3 rfl rfl (SlF.one1 (SlF.st0 f_l hs1) ?_ rfl)) ?_
 · omega
 refine WL.r 1 hs1 [] rfl (WL.nil (WC.cq rfl (fun h5 qh5 => ?_) (fun h5 qh5 => ?_)))
 ·have hz : iat l 1 = 0 := by have h9 := h5; simpa using h9
  refine WC.r1 hs1 [] rfl (WC.ret (tkR ?_))
  clear hK4
  refine rtv rfl rfl hs1 ?_
  rw [show argI l 1 d = d from by unfold argI; rw [if_neg (by exact fun h => h.2 hz)]]
 have hz : ¬ iat l 1 = 0 := by have h9 := h5; simpa using h9
 refine WC.skip (hK4 _ _ (WC.sr (WL.r 2 hs1 [] rfl ?_)))
 refine WL.val rfl rfl rfl (Run.idx Tryz.runUnderlying23 Tryz.sizeOf3 rfl rfl rfl ?_ ?_ ?_) ?_
 · exact SlF.some_ (SlF.st0 f_l hs1)
 · omega
 · omega
 refine WL.val rfl rfl rfl (Run.load Tryz.isAgg3 rfl rfl (SlF.one1 (SlF.st0 f_l hs1) ?_ rfl)) ?_
 · omega
 refine WL.r 1 hs1 [] rfl (WL.nil (WC.ret (rtv rfl rfl hs1 ?_)))
 rw [show argI l 1 d = iat l 1 from by unfold argI; rw [if_pos ⟨hp, hz⟩]]; rfl
theorem k46_ (s : ScrR) (x : Int) (y : Int) (w : World) (f_s : okScrR 549755813888 w s) (hsm : smScr 1048576 s.dat) :
    Calls Tryz.prog 163 #[.agg (cScr s).toArray, i64 x, i64 y] w fun e w' => ∃ r L1, e = .returned (.agg (cScr r).toArray) ∧ St w [] L1 w' ∧ ownScrR r L1 ∧ r.dat = scrGoRes s.dat x y := by
 have nb_s_Main_Cells := f_s.Main.Cells_n
 have nl_s_Main_Cells := f_s.Main.Cells.len
 have nb_s_Alt_Cells := f_s.Alt.Cells_n
 have nl_s_Alt_Cells := f_s.Alt.Cells.len
 have nb_s_Tabs := f_s.Tabs_n
 have nl_s_Tabs := f_s.Tabs.len
 have nb_s_Back := f_s.Back_n
 have nl_s_Back := f_s.Back.sl.len
 have hsmB : smScr 549755813888 s.dat := by first | assumption | exact smScr_mono hsm (by decide)
 refine enter 28 Tryz.func163 rfl Tryz.ntmps163 rfl rfl ?_
 have hs1 := St.init w
 refine WC.sr (WL.bx hs1 rfl (fun b2 _ hs3 => WL.al hs3 Tryz.zeroValue33 rfl rfl (fun b4 _ hs5 => WL.nil (WC.seq (fun K6 hK6 => WC.sr (WL.r 1 hs5 [1] rfl (WL.cl Tryz.call63 rfl (k30_ s _ (okScrR.st0 f_s hs5)) ?_)))))))
 rintro _ whs7 ⟨rfl, hs7⟩
 replace hs7 := hs5.call0 hs7
 refine ⟨_, rfl, WL.r 1 hs7 [] rfl (WL.nil (WC.cq rfl (fun h8 qh8 => ?_) (fun h8 qh8 => ?_)))⟩
 ·have hk : scrOk s.dat = false := by have h9 := h8; simpa using h9
  refine WC.sr ?_
  refine WL.val rfl rfl rfl (Run.build rfl rfl rfl rfl (built_33)) (WL.st tbk hs7 0 rfl rfl (fun _ hs9 => WL.nil (WC.ret (tkR ?_))))
  clear hK6
  refine retV1 rfl (resV.cellA tbk hs9 0 rfl rfl rfl rfl) ?_
  obtain ⟨L15, hs14, ho16⟩ := ownScrR.fl hs9 (OwnF.nil _ _) (OwnF.nil _ _) (OwnF.nil _ _) (OwnN.nil _ _ _)
  have hs17 := ((hs14.fb b2).fb b4)
  refine ownScrR.ret rfl (St.keep1 (hs17.fr L15)) ho16 ?_
  · unfold scrGoRes; rw [hk]; rfl
 have hk : scrOk s.dat = true := by have h9 := h8; simpa using h9
 have hf := ScrFine.of hk
 have hwh : (1 ≤ s.W ∧ s.W ≤ 120) ∧ 1 ≤ s.H ∧ s.H ≤ 120 := ⟨(isSize_bnd hf.size).1, (isSize_bnd hf.size).2.1⟩
 refine WC.skip (hK6 _ _ (WC.sr (WL.r 1 hs7 [1] rfl ?_)))
 refine WL.cl Tryz.call64 rfl (k31_ s _ (okScrR.st0 f_s hs7) ?_) ?_
 · first | assumption | rfl | omega
 rintro _ whs18 ⟨r19, L1_20, rfl, hs18, ho21, hd22⟩
 replace hs18 := hs7.callF hs18
 refine ⟨_, rfl, ?_⟩
 replace hs18 := St.back [_, _] hs18
 have hcp := hd22
 refine WL.al hs18 Tryz.zeroValue33 rfl rfl (fun b23 _ hs24 => WL.st tbk hs24 0 rfl rfl (fun _ hs25 => WL.nil (WC.sr (WL.r 4 hs25 [2] rfl (WL.cl Tryz.call218 rfl (k33_ _ _ _) ?_)))))
 rintro _ whs26 ⟨rfl, hs26⟩
 replace hs26 := hs25.call0 hs26
 refine ⟨_, rfl, WL.r 1 hs26 [] rfl (WL.st tbk hs26 0 rfl rfl (fun _ hs27 => WL.nil (WC.sr (WL.r 4 hs27 [2] rfl (WL.cl Tryz.call218 rfl (k33_ _ _ _) ?_)))))⟩
 rintro _ whs28 ⟨rfl, hs28⟩
 replace hs28 := hs27.call0 hs28
 refine ⟨_, rfl, WL.r 1 hs28 [] rfl (WL.st tbk hs28 0 rfl rfl (fun _ hs29 => WL.nil (WC.sr (WL.r 1 hs29 [] rfl (WL.st tbk hs29 0 rfl rfl (fun _ hs30 => WL.nil ?_))))))⟩
 refine WC.sr (WL.r 1 hs30 [0] rfl (WL.st tbk hs30 1 rfl rfl (fun _ hs31 => WL.nil (WC.ret (retV1 rfl (resV.cellA tbk hs31 1 rfl rfl rfl rfl) ?_)))))
 obtain ⟨L32, L33, L34, L35, hs40, ho36, ho37, ho38, ho39⟩ := ownScrR.op hs31 ho21
 have hs41 := (((hs40.fb b2).fb b4).fb b23)
 obtain ⟨L43, hs42, ho44⟩ := ownScrR.fl hs41 ho36 ho37 ho38 ho39
 have hs45 := (((hs42.fb b2).fb b4).fb b23)
 refine ownScrR.ret rfl (St.keep1 (hs45.fr L43)) ho44 ?_
 · unfold scrGoRes; rw [if_pos hk, show moveD s.dat x y = { s.dat with X := if x < 0 then 0 else min x (s.W - 1), Y := if y < 0 then 0 else min y (s.H - 1), Wrap := false } from by unfold moveD; rw [clamp_eq (by show 0 ≤ s.W - 1; omega), clamp_eq (by show 0 ≤ s.H - 1; omega)]; rfl, ← hcp]; rfl
theorem k47_ (s : ScrR) (L_s : Hp) (a : Int) (b : Int) (w : World) (o_s : ownScrR s L_s) (h_s : Hh w L_s) (hd_ : ((L_s).map (·.1)).Nodup) (hf : ScrFine s.dat) (hsmB : smScr 549755813888 s.dat) :
    Calls Tryz.prog 229 #[.agg (cScr s).toArray, i64 a, i64 b] w fun e w' => ∃ r L1, e = .returned (.agg (cScr r).toArray) ∧ St w ((L_s).map (·.1)) L1 w' ∧ ownScrR r L1 ∧ r.dat = clearD s.dat a b := by
 have hgs := hf.shown.1
 have hgb := gridOk_bnd hgs
 have hgl := grid_len hgs
 have hsS : smGrid 1099511627 (shownR s).dat := by rw [shownR_dat]; show (shownD s.dat).Cells.length ≤ _; omega
 have hsS2 : smGrid 549755813888 (shownR s).dat := Nat.le_trans hsS (by decide)
 refine enter 35 Tryz.func229 rfl Tryz.ntmps229 rfl rfl ?_
 have hs1 := St.takes1 w L_s h_s hd_
 refine WC.sr (WL.bx hs1 rfl (fun b2 _ hs3 => WL.al hs3 Tryz.zeroValue33 rfl rfl (fun b4 _ hs5 => WL.nil (WC.sr (WL.r 1 hs5 [1] rfl (WL.cl Tryz.call145 rfl (k35_ s _ (ownScrR.ok (B := 549755813888) o_s (hs5.ow L_s) (by assumption))) ?_))))))
 rintro _ whs6 ⟨rfl, hs6⟩
 replace hs6 := hs5.call0 hs6
 refine ⟨_, rfl, WL.cl Tryz.call141 rfl (k16_ (shownR s) _ (okScrR.shown (ownScrR.ok (B := 549755813888) o_s (hs6.ow L_s) (by assumption))) ?_) ?_⟩
 · first | assumption | rfl | omega
 rintro _ whs7 ⟨r8, L1_9, rfl, hs7, ho10, hd11⟩
 replace hs7 := hs6.callF hs7
 refine ⟨_, rfl, ?_⟩
 replace hs7 := St.back [_, _] hs7
 have hd0 := hd11.trans shownR_dat
 have hn0 := ownGridR.len ‹ownGridR r8 _›
 have hl0 : r8.Cells.xs.length = (shownD s.dat).Cells.length := congrArg (fun d : GridD => d.Cells.length) hd0
 refine WL.al hs7 Tryz.zeroValue28 rfl rfl (fun b12 _ hs13 => WL.st tbk hs13 0 rfl rfl (fun _ hs14 => WL.nil (WC.seq (fun K15 hK15 => WC.r1 hs14 [0] rfl (WC.block ?_)))))
 have hM20 := (St.grp1 (L1 := L1_9) [_] (((((hs14.fr L_s).fb b2).fb b4).fr L1_9).fb b12))
 refine WC.lV [1, 2, 3, 6, 7, 14] rfl hM20 (fun k_ (a_ : Hp) f => ∃ (i : Nat) (r : GridR) (L18 : Hp), k_ = r8.Cells.n - i ∧ a_ = [(b12, .cells (List.toArray [i64 r.W, i64 r.H, .slice r.Cells.A r.Cells.n r.Cells.c]) 28 (0, 0))] ++ L18 ∧ (i ≤ r8.Cells.n) ∧ (r.W = (shownD s.dat).W ∧ r.H = (shownD s.dat).H ∧ r.Cells.xs.length = (shownD s.dat).Cells.length) ∧ (∀ k, k < (shownD s.dat).Cells.length → cat r.Cells.xs k = partF (shownD s.dat) (clearF (shownD s.dat) a b) 0 i k) ∧ ownGridR r L18 ∧ Sub [(15, .int .i64 i)] f) (((fun (i : Nat) => r8.Cells.n - i) (0))) ?_ ?_
 ·refine ⟨0, r8, L1_9, rfl, rfl, ?_, ?_, ?_, ho10, ⟨rfl, trivial⟩⟩
  · omega
  · exact ⟨congrArg GridD.W hd0, congrArg GridD.H hd0, hl0⟩
  · intro k hk; rw [partF_zero]; exact congrArg (fun d : GridD => cat d.Cells k) hd0
 rintro _ _ f w ⟨i, r, L18, rfl, rfl, p0, p1, p2, ho19, hG⟩ hF hs21
 refine WC.sub _ (hG.app hF) ?_
 clear hG hF
 replace hs21 := St.ungrp1 [_] hs21
 have hs22 := (((hs21.fb b2).fb b4).fb b12)
 have hsmr : smGrid 549755813888 r.dat := by show r.Cells.xs.length ≤ 549755813888; rw [p1.2.2]; omega
 have hnr := ownGridR.len ‹ownGridR r _›
 refine WC.r1 hs22 [] rfl (WC.seq (fun K23 hK23 => ?_))
 refine WC.cq rfl (fun h24 qh24 => ?_) (fun h24 qh24 => ?_)
 ·refine WC.skip (hK23 _ _ (WC.seq (fun K25 hK25 => WC.block (WC.r1 hs22 [] rfl (WC.sr (WL.r 4 hs22 [] rfl (WL.pA tbk 3 Acts.nil hs22 [] rfl rfl rfl rfl (fun g_ => trivial) ?_)))))))
  refine WL.nil (WC.cq rfl (fun h26 qh26 => ?_) (fun h26 qh26 => ?_))
  ·have hin : a ≤ (i : Int) ∧ (i : Int) < b := by have h9 := h26; simp at h9; exact h9
   refine WC.rG 5 ((hs22.rm L18).rm L_s) hs22 hs22 (fun _ hs27 => ?_)
   refine WG.rn [0, 1, 2] hs27 [0] rfl rfl (WG.o1 3 rfl rfl (WL.cl Tryz.call180 rfl (k15_ _) ?_))
   rintro _ whs28 ⟨rfl, hs28⟩
   replace hs28 := hs27.call0 hs28
   refine ⟨_, rfl, WL.nil ⟨hs28, ?_⟩⟩
   refine WG.tk 4 rfl (by kernel_rfl) rfl rfl rfl hs28 (fun w_ hs_ => (Run.idxN Tryz.runUnderlying26 Tryz.sizeOf75 rfl rfl rfl ?_ ?_ ?_)) ?_
   · exact SlF.some_ (ownGridR.ok (B := 549755813888) ho19 ((hs_ : St _ _ _ _).ow L18) hsmr).Cells
   · first | omega | (rw [p1.2.2] at *; omega)
   · first | omega | (rw [p1.2.2] at *; omega)
   refine WG.oK rfl (WL.storeF1 (x' := blankC) (hs28.fr L18) ho19 Tryz.sizeOf75 rfl rfl rfl rfl rfl rfl rfl rfl rfl ?_ rfl (fun L29 whs30 hs30 ho31 _ => ?_))
   · first | omega | (rw [p1.2.2] at *; omega)
   replace hs30 := St.back [_, _, _] hs30
   refine WL.nil ⟨((hs30.rm L29).rm L_s), WH.dn (hK25 _ _ (WC.region (WL.r 2 hs30 [] rfl (WL.nil (tkN ?_)))))⟩
   have hF32 := (St.grp1 (L1 := L29) [_] (((((hs30.fr L_s).fb b2).fb b4).fr L29).fb b12))
   refine ⟨sbF rfl, _, hF32, _, ?_, i + 1, ⟨r.W, r.H, SlD.of ho31⟩, L29, rfl, rfl, ?_, ?_, ?_, ho31, ⟨rfl, trivial⟩⟩
   · omega
   · omega
   · first | exact p1 | exact ⟨p1.1, p1.2.1, by simp only [List.length_set]; exact p1.2.2⟩
   · intro k hk; show cat _ k = _; first | exact part_next (g := (shownD s.dat)) (by omega) (by rw [p1.2.2]; omega) (clearF_in ⟨by omega, by omega⟩).symm (p2 k hk) | exact part_skip (g := (shownD s.dat)) (clearF_out hout) (p2 k hk)
  have hout : ¬ (a ≤ (i : Int) ∧ (i : Int) < b) := by rintro ⟨z1, z2⟩; have h9 := h26; simp at h9; have := h9 z1; omega
  refine WC.skip (hK25 _ _ (WC.region (WL.r 2 hs22 [] rfl (WL.nil (tkN ?_)))))
  have hF33 := (St.grp1 (L1 := L18) [_] (((((hs22.fr L_s).fb b2).fb b4).fr L18).fb b12))
  refine ⟨sbF rfl, _, hF33, _, ?_, i + 1, r, L18, rfl, rfl, ?_, ?_, ?_, ho19, ⟨rfl, trivial⟩⟩
  · omega
  · omega
  · first | exact p1 | exact ⟨p1.1, p1.2.1, by simp only [List.length_set]; exact p1.2.2⟩
  · intro k hk; show cat _ k = _; first | exact part_next (g := (shownD s.dat)) (by omega) (by rw [p1.2.2]; omega) (clearF_in ⟨by omega, by omega⟩).symm (p2 k hk) | exact part_skip (g := (shownD s.dat)) (clearF_out hout) (p2 k hk)
 refine WC.exit (hK15 _ _ (WC.sr (WL.r 2 hs22 [2, 0] rfl (WL.cl Tryz.call143 rfl (k36_ s _ r _ _ o_s (hs22.ow L_s) ho19 (hs22.ow L18) (St.nodupL (St.grp2 (L1 := L_s) (L2 := L18) [] ((hs22.fr L18).fr L_s)))) ?_))))
 rintro _ whs34 ⟨r35, L1_36, rfl, hs34, ho37, hd38⟩
 replace hs34 := St.lend (St.grp2 (L1 := L_s) (L2 := L18) [] ((hs22.fr L18).fr L_s)) hs34
 refine ⟨_, rfl, ?_⟩
 replace hs34 := St.back [_, _, _] hs34
 refine WL.st tbk hs34 1 rfl rfl (fun _ hs39 => WL.nil (WC.ret (retV1 rfl (resV.cellA tbk hs39 1 rfl rfl rfl rfl) ?_)))
 refine ⟨r35, _, rfl, (St.keep1 (hs39.fr L1_36)), ?_, ?_⟩
 · exact ho37
 · refine hd38.trans ?_; unfold clearD; congr 1; exact part_done (g := (shownD s.dat)) (lo := 0) (a := i) p1.1 p1.2.1 p1.2.2 (fun k hk h9 => absurd (show 0 ≤ k ∧ k < 0 + i by omega) h9) p2
theorem k48_ (s : ScrR) (L_s : Hp) (a : Int) (b : Int) (k : Int) (w : World) (o_s : ownScrR s L_s) (h_s : Hh w L_s) (hd_ : ((L_s).map (·.1)).Nodup) (hf : ScrFine s.dat) (hsmB : smScr 549755813888 s.dat) :
    Calls Tryz.prog 178 #[.agg (cScr s).toArray, i64 a, i64 b, i64 k] w fun e w' => ∃ r L1, e = .returned (.agg (cScr r).toArray) ∧ St w ((L_s).map (·.1)) L1 w' ∧ ownScrR r L1 ∧ r.dat = eraseD s.dat a b k := by
 have hwh : (1 ≤ s.W ∧ s.W ≤ 120) ∧ 1 ≤ s.H ∧ s.H ≤ 120 := ⟨(isSize_bnd hf.size).1, (isSize_bnd hf.size).2.1⟩
 have hxy := hf.pos
 simp only [ScrR.dat, GridR.dat] at hxy
 have hz := isSize_bnd hf.size
 simp only [ScrR.dat] at hz
 have hv0 : 0 ≤ s.Y * s.W := Int.mul_nonneg (by omega) (by omega)
 have hv1 : (s.Y + 1) * s.W = s.Y * s.W + s.W := by rw [Int.add_mul, Int.one_mul]
 have hv2 : (s.Y + 1) * s.W ≤ s.H * s.W := Int.mul_le_mul_of_nonneg_right (by omega) (by omega)
 rw [Int.mul_comm s.H s.W] at hv2
 refine enter 39 Tryz.func178 rfl Tryz.ntmps178 rfl rfl ?_
 have hs1 := St.takes1 w L_s h_s hd_
 refine WC.sr (WL.bx hs1 rfl (fun b2 _ hs3 => WL.al hs3 Tryz.zeroValue33 rfl rfl (fun b4 _ hs5 => WL.nil (WC.r1 hs5 [1, 1, 1] rfl (WC.seq (fun K6 hK6 => WC.r1 hs5 [] rfl (WC.block ?_)))))))
 refine WC.r1 hs5 [] rfl (WC.cq rfl (fun h7 qh7 => ?_) (fun h7 qh7 => ?_))
 ·have e0 : k = 0 := by have h9 := h7; simpa using h9
  refine WC.sr (WL.r 3 hs5 [1] rfl (WL.cl Tryz.call229 rfl (k47_ s _ _ _ _ o_s (hs5.ow L_s) (St.nodupL (hs5.fr L_s)) ?_ ?_) ?_))
  iterate 2 first | assumption | rfl | omega
  rintro _ whs8 ⟨r9, L1_10, rfl, hs8, ho11, hd12⟩
  replace hs8 := St.lend (hs5.fr L_s) hs8
  refine ⟨_, rfl, ?_⟩
  replace hs8 := St.back [_, _] hs8
  refine WL.st tbk hs8 0 rfl rfl (fun _ hs13 => WL.nil (WC.ret (ibR (tkR ?_))))
  clear hK6
  refine retV1 rfl (resV.cellA tbk hs13 0 rfl rfl rfl rfl) (⟨r9, _, rfl, (St.keep1 (hs13.fr L1_10)), ?_, ?_⟩)
  · exact ho11
  · unfold eraseD; rw [if_pos e0]; exact hd12
 have e0 : ¬ k = 0 := by have h9 := h7; simpa using h9
 refine WC.r1 hs5 [] rfl (WC.cq rfl (fun h14 qh14 => ?_) (fun h14 qh14 => ?_))
 ·have e1 : k = 1 := by have h9 := h14; simpa using h9
  refine WC.sr (WL.r 4 hs5 [1] rfl (WL.cl Tryz.call229 rfl (k47_ s _ _ _ _ o_s (hs5.ow L_s) (St.nodupL (hs5.fr L_s)) ?_ ?_) ?_))
  iterate 2 first | assumption | rfl | omega
  rintro _ whs15 ⟨r16, L1_17, rfl, hs15, ho18, hd19⟩
  replace hs15 := St.lend (hs5.fr L_s) hs15
  refine ⟨_, rfl, ?_⟩
  replace hs15 := St.back [_, _] hs15
  refine WL.st tbk hs15 0 rfl rfl (fun _ hs20 => WL.nil (WC.ret (ibR (tkR ?_))))
  clear hK6
  refine retV1 rfl (resV.cellA tbk hs20 0 rfl rfl rfl rfl) (⟨r16, _, rfl, (St.keep1 (hs20.fr L1_17)), ?_, ?_⟩)
  · exact ho18
  · unfold eraseD; rw [if_neg e0, if_pos e1]; exact hd19
 have e1 : ¬ k = 1 := by have h9 := h14; simpa using h9
 refine WC.r1 hs5 [] rfl (WC.cq rfl (fun h21 qh21 => ?_) (fun h21 qh21 => ?_))
 ·have e2 : k = 2 := by have h9 := h21; simpa using h9
  refine WC.sr (WL.r 3 hs5 [1] rfl (WL.cl Tryz.call229 rfl (k47_ s _ _ _ _ o_s (hs5.ow L_s) (St.nodupL (hs5.fr L_s)) ?_ ?_) ?_))
  iterate 2 first | assumption | rfl | omega
  rintro _ whs22 ⟨r23, L1_24, rfl, hs22, ho25, hd26⟩
  replace hs22 := St.lend (hs5.fr L_s) hs22
  refine ⟨_, rfl, ?_⟩
  replace hs22 := St.back [_, _] hs22
  refine WL.st tbk hs22 0 rfl rfl (fun _ hs27 => WL.nil (WC.ret (ibR (tkR ?_))))
  clear hK6
  refine retV1 rfl (resV.cellA tbk hs27 0 rfl rfl rfl rfl) (⟨r23, _, rfl, (St.keep1 (hs27.fr L1_24)), ?_, ?_⟩)
  · exact ho25
  · unfold eraseD; rw [if_neg e0, if_neg e1, if_pos e2]; exact hd26
 have e2 : ¬ k = 2 := by have h9 := h21; simpa using h9
 refine WC.skip (hK6 _ _ (WC.sr (WL.r 1 hs5 [1] rfl (WL.st tbk hs5 0 rfl rfl (fun _ hs28 => WL.nil (WC.ret (retV1 rfl (resV.cellA tbk hs28 0 rfl rfl rfl rfl) ?_)))))))
 refine ⟨s, _, rfl, (St.keep1 (hs28.fr L_s)), ?_, ?_⟩
 · exact o_s
 · unfold eraseD; rw [if_neg e0, if_neg e1, if_neg e2]
theorem k49_ (s : ScrR) (L_s : Hp) (A_l : Option Addr) (n_l c_l : Nat) (l : List Int) (w : World) (o_s : ownScrR s L_s) (h_s : Hh w L_s) (f_l : SlF encI w A_l n_l l) (hd_ : ((L_s).map (·.1)).Nodup) (s_l : 0 < n_l → (adr A_l).block ∉ ((L_s).map (·.1))) (hf : ScrFine s.dat) (hsmB : smScr 549755813888 s.dat) (hl : areArgs l = true) (hll : n_l ≤ 549755813888) :
    Calls Tryz.prog 185 #[.agg (cScr s).toArray, .slice A_l n_l c_l] w fun e w' => ∃ r L1, e = .returned (.agg (cScr r).toArray) ∧ St w ((L_s).map (·.1)) L1 w' ∧ ownScrR r L1 ∧ r.dat = regionD s.dat l := by
 have hwh : (1 ≤ s.W ∧ s.W ≤ 120) ∧ 1 ≤ s.H ∧ s.H ≤ 120 := ⟨(isSize_bnd hf.size).1, (isSize_bnd hf.size).2.1⟩
 have hxy := hf.pos
 simp only [ScrR.dat, GridR.dat] at hxy
 have ha0 := argI_bnd (k := 0) (d := 1) hl (by omega)
 have ha1 : 0 ≤ argI l 1 s.H ∧ argI l 1 s.H ≤ 9999 := argI_bnd hl (by omega)
 refine enter 31 Tryz.func185 rfl Tryz.ntmps185 rfl rfl ?_
 have hs1 := St.takes1 w L_s h_s hd_
 refine WC.sr (WL.bx hs1 rfl (fun b2 _ hs3 => WL.al hs3 Tryz.zeroValue33 rfl rfl (fun b4 _ hs5 => WL.nil (WC.sr (WL.r 1 hs5 [] rfl ?_)))))
 refine WL.cl Tryz.call177 rfl (k44_ _ _ _ _ _ _ (SlF.st f_l hs5 s_l) ?_) ?_
 · first | assumption | rfl | omega | exact hsm2 | exact hsB2
 rintro _ whs6 ⟨rfl, hs6⟩
 replace hs6 := hs5.call0 hs6
 refine ⟨_, rfl, WL.r 2 hs6 [] rfl (WL.nil (WC.sr (WL.r 3 hs6 [1] rfl (WL.cl Tryz.call177 rfl (k45_ _ _ _ _ _ _ (SlF.st f_l hs6 s_l) ?_) ?_))))⟩
 · first | assumption | rfl | omega | exact hsm2 | exact hsB2
 rintro _ whs7 ⟨rfl, hs7⟩
 replace hs7 := hs6.call0 hs7
 refine ⟨_, rfl, WL.r 2 hs7 [] rfl (WL.nil (WC.seq (fun K8 hK8 => WC.sr (WL.r 4 hs7 [] rfl (WL.pO tbk 4 Acts.nil hs7 [1] rfl rfl rfl rfl (fun g_ => ⟨rfl, trivial⟩) (WL.nil ?_))))))⟩
 refine WC.cq rfl (fun h9 qh9 => ?_) (fun h9 qh9 => ?_)
 ·have hr : ¬ (argI l 0 1 - 1 < argI l 1 s.H - 1 ∧ argI l 1 s.H - 1 < s.H) := by rintro ⟨z1, z2⟩; have h9 := h9; simp at h9; omega
  refine WC.sr (WL.r 1 hs7 [1] rfl (WL.st tbk hs7 0 rfl rfl (fun _ hs10 => WL.nil (WC.ret (tkR ?_)))))
  clear hK8
  refine retV1 rfl (resV.cellA tbk hs10 0 rfl rfl rfl rfl) (⟨s, _, rfl, (St.keep1 (hs10.fr L_s)), ?_, ?_⟩)
  · exact o_s
  · unfold regionD; rw [if_neg (show ¬ (argI l 0 1 - 1 < argI l 1 s.dat.H - 1 ∧ argI l 1 s.dat.H - 1 < s.dat.H) from hr)]
 have hr : argI l 0 1 - 1 < argI l 1 s.H - 1 ∧ argI l 1 s.H - 1 < s.H := by have h9 := h9; simp at h9; omega
 have hf2 := hf.reg2 hl hr
 have hsm2 := fine_smB (B := 1048576) hf2 (by decide)
 have hsB2 := fine_smB (B := 549755813888) hf2 (by decide)
 refine WC.skip (hK8 _ _ (WC.sr (WL.r 2 hs7 [] rfl (WL.st tbk hs7 1 rfl rfl (fun _ hs11 => WL.nil (WC.sr (WL.r 2 hs11 [] rfl ?_)))))))
 refine WL.st tbk hs11 1 rfl rfl (fun _ hs12 => WL.nil (WC.sr (WL.r 1 hs12 [1] rfl ?_)))
 have hk14 := (ownScrR.ok (B := 549755813888) o_s (hs12.ow L_s) (by assumption))
 have hk15 := (ownScrR.ok (B := 549755813888) o_s (hs12.ow L_s) (by assumption))
 refine WL.cl Tryz.call163 rfl (k46_ (⟨s.W, s.H, ⟨s.Main.W, s.Main.H, s.Main.Cells⟩, ⟨s.Alt.W, s.Alt.H, s.Alt.Cells⟩, s.OnAlt, s.X, s.Y, s.Wrap, ⟨s.A.Fg, s.A.Bg, s.A.Bold, s.A.Under, s.A.Turn⟩, ((argI l 0 (1)) - (1)), ((argI l 1 s.H) - (1)), s.NoWrap, s.Hide, s.SaveX, s.SaveY, ⟨s.SaveA.Fg, s.SaveA.Bg, s.SaveA.Bold, s.SaveA.Under, s.SaveA.Turn⟩, s.Tabs, s.Limit, s.Back⟩ : ScrR) _ _ _ ⟨⟨hk14.Main.Cells, hk14.Main.Cells_c, hk14.Main.Cells_n⟩, ⟨hk14.Alt.Cells, hk14.Alt.Cells_c, hk14.Alt.Cells_n⟩, hk14.Tabs, hk14.Tabs_c, hk14.Tabs_n, hk14.Back, hk14.Back_c, hk14.Back_n⟩ ?_) ?_
 · first | assumption | rfl | omega | exact hsm2 | exact hsB2
 rintro _ whs13 ⟨r16, L1_17, rfl, hs13, ho18, hd19⟩
 replace hs13 := hs12.callF hs13
 refine ⟨_, rfl, ?_⟩
 replace hs13 := St.back [_, _] hs13
 refine WL.st tbk hs13 0 rfl rfl (fun _ hs20 => WL.nil (WC.ret (retV1 rfl (resV.cellA tbk hs20 0 rfl rfl rfl rfl) ?_)))
 refine ⟨r16, _, rfl, (St.keep1 (hs20.fr L1_17)), ?_, ?_⟩
 · exact ho18
 · unfold regionD; rw [if_pos (show argI l 0 1 - 1 < argI l 1 s.dat.H - 1 ∧ argI l 1 s.dat.H - 1 < s.dat.H from hr)]; exact hd19.trans (scrGo_eq hf2)
theorem k50_ (s : ScrR) (L_s : Hp) (k : Int) (w : World) (o_s : ownScrR s L_s) (h_s : Hh w L_s) (hd_ : ((L_s).map (·.1)).Nodup) (hf : ScrFine s.dat) (hsmB : smScr 549755813888 s.dat) :
    Calls Tryz.prog 186 #[.agg (cScr s).toArray, i64 k] w fun e w' => ∃ r L1, e = .returned (.agg (cScr r).toArray) ∧ St w ((L_s).map (·.1)) L1 w' ∧ ownScrR r L1 ∧ r.dat = tabsD s.dat k := by
 obtain ⟨_, _, hTl, _⟩ := ownScrR.len o_s
 have hTs : s.Tabs.xs.length ≤ 1048576 := (fine_smB (B := 1048576) hf (by decide)).2.2.1
 refine enter 40 Tryz.func186 rfl Tryz.ntmps186 rfl rfl ?_
 have hs1 := St.takes1 w L_s h_s hd_
 refine WC.sr (WL.bx hs1 rfl (fun b2 _ hs3 => WL.al hs3 Tryz.zeroValue33 rfl rfl (fun b4 _ hs5 => WL.nil (WC.sr (WL.buildF (F := encI) hs5 ([]) Tryz.runUnderlying23 Tryz.sizeOf3 Tryz.zeroValue3 rfl rfl rfl rfl rfl rfl rfl rfl rfl rfl rfl rfl (fun A9 c10 L6 whs7 hs7 ho8 => ?_))))))
 replace hs7 := St.back [_, _] hs7
 refine WL.r 1 hs7 [] rfl (WL.nil (WC.seq (fun K11 hK11 => WC.r1 hs7 [1] rfl (WC.block ?_))))
 have hM16 := (St.grp1 (L1 := L6) [] ((((hs7.fr L_s).fb b2).fb b4).fr L6))
 refine WC.lV [1, 2, 4, 10, 11] rfl hM16 (fun k_ (a_ : Hp) f => ∃ (i : Nat) (zs : List Int) (A12 : Option Addr) (c13 : Nat) (L14 : Hp), k_ = s.Tabs.n - i ∧ a_ = L14 ∧ (i ≤ s.Tabs.n) ∧ (zs = (s.Tabs.xs.take i).filter (tabP s.dat k)) ∧ (zs.length ≤ i) ∧ OwnF encI 3 (.slice A12 (zs).length c13) (zs) L14 ∧ Sub [(5, .slice A12 (zs).length c13), (12, .int .i64 i)] f) (((fun (i : Nat) (zs : List Int) => s.Tabs.n - i) (0) ([]))) ?_ ?_
 ·refine ⟨0, [], A9, c10, L6, rfl, rfl, ?_, ?_, ?_, ho8, ⟨rfl, rfl, trivial⟩⟩
  · omega
  · rfl
  · exact Nat.le_refl _
 rintro _ L14 f w ⟨i, zs, A12, c13, _, rfl, rfl, p0, p1, p2, ho15, hG⟩ hF hs17
 refine WC.sub _ (hG.app hF) ?_
 clear hG hF
 replace hs17 := St.ungrp1 [] hs17
 have hs18 := ((hs17.fb b2).fb b4)
 refine WC.r1 hs18 [] rfl (WC.seq (fun K19 hK19 => ?_))
 refine WC.cq rfl (fun h20 qh20 => ?_) (fun h20 qh20 => ?_)
 ·refine WC.skip (hK19 _ _ (WC.seq (fun K21 hK21 => WC.block (WC.sr ?_))))
  refine WL.val rfl rfl rfl (Run.idxN Tryz.runUnderlying23 Tryz.sizeOf3 rfl rfl rfl ?_ ?_ ?_) ?_
  · exact SlF.some_ (ownScrR.ok (B := 549755813888) o_s (hs18.ow L_s) (by assumption)).Tabs
  · omega
  · omega
  refine WL.val rfl rfl rfl (Run.load Tryz.isAgg3 rfl rfl (SlF.one1 (ownScrR.ok (B := 549755813888) o_s (hs18.ow L_s) (by assumption)).Tabs ?_ rfl)) ?_
  · omega
  refine WL.r 1 hs18 [] rfl (WL.nil (WC.sr (WL.r 3 hs18 [] rfl (WL.pA tbk 4 Acts.nil hs18 [1] rfl rfl rfl rfl (fun g_ => ⟨rfl, trivial⟩) (WL.r 1 hs18 [] rfl ?_)))))
  apply WL.gO 6 Acts.nil hs18 rfl
  ·intro g22 J23
   have qg22 := g22
   try simp only [bf, within_iff, within_not] at qg22
   refine WL.runA tbk 3 (Acts.nil.cons (j := 8) rfl g22) hs18 [] rfl trivial (WL.pA tbk 2 (Acts.nil.cons (j := 8) rfl g22) hs18 [] rfl rfl rfl rfl (fun g_ => trivial) (WL.eO 4 Acts.nil J23 hs18 g22 rfl rfl))
  intro _ hs24
  refine WL.nil (WC.cq rfl (fun h25 qh25 => ?_) (fun h25 qh25 => ?_))
  ·have hin : tabP s.dat k (iat s.Tabs.xs i) = true := by rw [tabP_iff]; show (k = 0 ∧ ¬ iat s.Tabs.xs i = s.X) ∨ (¬ k = 0 ∧ ¬ k = 3); have h9 := h25; simp at h9; first | exact h9 | omega
   refine WC.region (WL.r 2 hs24 [] rfl (WL.buildSlice hs24 Tryz.runUnderlying23 Tryz.sizeOf3 Tryz.zeroValue3 rfl rfl rfl rfl rfl rfl rfl rfl rfl rfl (fun b26 whs27 hs27 => ?_)))
   refine WL.appendG (hs27.fr L14) ho15 (srcI1 Tryz.underlying23 (hs27.own _ (nthL_mem (i := 0) rfl)).1) Tryz.underlying23 inf3 rfl rfl rfl rfl rfl rfl rfl rfl rfl rfl ?_ (fun A31 c32 L28 whs29 hs29 ho30 => ?_)
   · simp; omega
   replace hs29 := St.back [_, _, _] hs29
   refine WL.r 1 hs29 [] rfl (WL.nil (hK21 _ _ (WC.region (WL.r 2 hs29 [] rfl (WL.nil (tkN ?_))))))
   replace hs29 := hs29.d1
   have hF33 := (St.grp1 (L1 := L28) [] ((((hs29.fr L_s).fb b2).fb b4).fr L28))
   refine ⟨sbF rfl, _, hF33, _, ?_, i + 1, _, A31, c32, L28, rfl, rfl, ?_, ?_, ?_, ho30, ⟨rfl, rfl, trivial⟩⟩
   · omega
   · omega
   · rw [p1]; first | exact (filt_in (by omega) hin).symm | exact (filt_out (by omega) hout).symm
   · (try simp only [List.length_append, List.length_singleton]); omega
  have hout : ¬ tabP s.dat k (iat s.Tabs.xs i) = true := by rw [tabP_iff]; show ¬ ((k = 0 ∧ ¬ iat s.Tabs.xs i = s.X) ∨ (¬ k = 0 ∧ ¬ k = 3)); intro z9; have h9 := h25; simp at h9; rcases z9 with z9 | z9; exact z9.2 (h9.1 z9.1); exact z9.2 (h9.2 z9.1)
  refine WC.skip (hK21 _ _ (WC.region (WL.r 2 hs24 [] rfl (WL.nil (tkN ?_)))))
  have hF34 := (St.grp1 (L1 := L14) [] ((((hs24.fr L_s).fb b2).fb b4).fr L14))
  refine ⟨sbF rfl, _, hF34, _, ?_, i + 1, _, A12, c13, L14, rfl, rfl, ?_, ?_, ?_, ho15, ⟨rfl, rfl, trivial⟩⟩
  · omega
  · omega
  · rw [p1]; first | exact (filt_in (by omega) hin).symm | exact (filt_out (by omega) hout).symm
  · (try simp only [List.length_append, List.length_singleton]); omega
 refine WC.exit (hK11 _ _ (WC.sr (WL.r 2 hs18 [] rfl (WL.st tbk hs18 1 rfl rfl (fun _ hs35 => WL.nil (WC.sr (WL.r 1 hs35 [1] rfl ?_)))))))
 refine WL.st tbk hs35 0 rfl rfl (fun _ hs36 => WL.nil (WC.ret (retV1 rfl (resV.cellA tbk hs36 0 rfl rfl rfl rfl) ?_)))
 obtain ⟨L37, L38, L39, L40, hs45, ho41, ho42, ho43, ho44⟩ := ownScrR.op hs36 o_s
 have hs46 := ((hs45.fb b2).fb b4)
 obtain ⟨L48, hs47, ho49⟩ := ownScrR.fl hs46 ho41 ho42 ho15 ho44
 have hs50 := ((hs47.fb b2).fb b4)
 refine ownScrR.ret rfl (St.keep1 (hs50.fr L48)) ho49 ?_
 · rw [tabsD_P]; refine Eq.trans ?_ (show ({ s.dat with Tabs := zs } : ScrD) = { s.dat with Tabs := s.dat.Tabs.filter (tabP s.dat k) } from by rw [p1, List.take_of_length_le (by omega)]; rfl); rfl
theorem k51_ (s : ScrR) (L_s : Hp) (n : Int) (w : World) (o_s : ownScrR s L_s) (h_s : Hh w L_s) (hd_ : ((L_s).map (·.1)).Nodup) (hf : ScrFine s.dat) (hsmB : smScr 549755813888 s.dat) (hn : -100000 ≤ n ∧ n ≤ 100000) :
    Calls Tryz.prog 182 #[.agg (cScr s).toArray, i64 n] w fun e w' => ∃ r L1, e = .returned (.agg (cScr r).toArray) ∧ St w ((L_s).map (·.1)) L1 w' ∧ ownScrR r L1 ∧ r.dat = linesD s.dat n := by
 have hwh : (1 ≤ s.W ∧ s.W ≤ 120) ∧ 1 ≤ s.H ∧ s.H ≤ 120 := ⟨(isSize_bnd hf.size).1, (isSize_bnd hf.size).2.1⟩
 have hxy := hf.pos
 simp only [ScrR.dat, GridR.dat] at hxy
 have hrg : (0 ≤ s.Top ∧ s.Top ≤ s.Bot) ∧ s.Bot < s.H := ⟨hf.reg.1, hf.reg.2.1⟩
 have hgs : gridOk (shownR s).dat = true := by rw [shownR_dat]; exact hf.shown.1
 have hHs : (shownR s).H = s.H := by have h9 : (shownR s).H = (shownD s.dat).H := congrArg GridD.H shownR_dat; rw [h9]; exact hf.shown.2.2
 refine enter 31 Tryz.func182 rfl Tryz.ntmps182 rfl rfl ?_
 have hs1 := St.takes1 w L_s h_s hd_
 refine WC.sr (WL.bx hs1 rfl (fun b2 _ hs3 => WL.al hs3 Tryz.zeroValue33 rfl rfl (fun b4 _ hs5 => WL.nil (WC.seq (fun K6 hK6 => WC.sr (WL.r 6 hs5 [1, 1] rfl (WL.pO tbk 5 Acts.nil hs5 [1, 1] rfl rfl rfl rfl (fun g_ => ⟨rfl, rfl, trivial⟩) ?_)))))))
 refine WL.nil (WC.cq rfl (fun h7 qh7 => ?_) (fun h7 qh7 => ?_))
 ·have hwi : ¬ within s.dat.Y s.dat.Top s.dat.Bot = true := by rw [within_iff]; show ¬ (s.Top ≤ s.Y ∧ s.Y ≤ s.Bot); have h9 := h7; simp at h9; omega
  refine WC.sr (WL.r 1 hs5 [1] rfl (WL.st tbk hs5 0 rfl rfl (fun _ hs8 => WL.nil (WC.ret (tkR ?_)))))
  clear hK6
  refine retV1 rfl (resV.cellA tbk hs8 0 rfl rfl rfl rfl) (⟨s, _, rfl, (St.keep1 (hs8.fr L_s)), ?_, ?_⟩)
  · exact o_s
  · unfold linesD; rw [if_neg hwi]
 have hwi : within s.dat.Y s.dat.Top s.dat.Bot = true := by rw [within_iff]; show s.Top ≤ s.Y ∧ s.Y ≤ s.Bot; have h9 := h7; simp at h9; omega
 have hwj : s.Top ≤ s.Y ∧ s.Y ≤ s.Bot := within_iff.1 hwi
 refine WC.skip (hK6 _ _ (WC.seq (fun K9 hK9 => WC.rG 10 ((hs5.fb b2).d1.rm L_s) (hs5.rm L_s) hs5 (fun _ hs10 => ?_))))
 refine WG.rn [0, 1, 3, 4, 5, 6, 7] (hs10.rm L_s) [1, 1, 1, 1] rfl rfl (WG.o1 2 rfl rfl (WL.cl Tryz.call145 rfl (k35_ s _ (ownScrR.ok (B := 549755813888) o_s (hs10.ow L_s) (by assumption))) ?_))
 rintro _ whs11 ⟨rfl, hs11⟩
 replace hs11 := hs10.call0 hs11
 refine ⟨_, rfl, WL.nil ⟨(hs11.rm L_s), WG.o1 8 rfl rfl (WL.cl Tryz.call144 rfl (k34_ (shownR s) _ _ _ _ (okScrR.shown (ownScrR.ok (B := 549755813888) o_s (hs11.ow L_s) (by assumption))) ?_ ?_ ?_) ?_)⟩⟩
 iterate 3 first | assumption | rfl | omega
 rintro _ whs12 ⟨r13, L1_14, rfl, hs12, ho15, hd16⟩
 replace hs12 := hs11.callF hs12
 refine ⟨_, rfl, ?_⟩
 replace hs12 := St.back [_, _] hs12
 have hgr := hd16
 refine WL.nil ⟨((hs12.rm L1_14).rm L_s), WG.o1 9 rfl rfl (WL.cl Tryz.call143 rfl (k36_ s _ r13 _ _ o_s (hs12.ow L_s) ho15 (hs12.ow L1_14) (St.nodupL (St.grp2 (L1 := L_s) (L2 := L1_14) [] ((hs12.fr L1_14).fr L_s)))) ?_)⟩
 rintro _ whs17 ⟨r18, L1_19, rfl, hs17, ho20, hd21⟩
 replace hs17 := St.lend (St.grp2 (L1 := L_s) (L2 := L1_14) [] ((hs12.fr L1_14).fr L_s)) hs17
 refine ⟨_, rfl, ?_⟩
 replace hs17 := St.back [_, _] hs17
 have hpt := hd21
 refine WL.nil ⟨(hs17.rm L1_19), WG.oK rfl (WL.st tbk hs17 1 rfl rfl (fun _ hs22 => WL.nil ⟨((hs22.fb b2).d1.rm L1_19), WH.dn (hK9 _ _ (WC.sr (WL.r 1 hs22 [] rfl ?_)))⟩))⟩
 refine WL.st tbk hs22 1 rfl rfl (fun _ hs23 => WL.nil (WC.sr (WL.r 1 hs23 [] rfl (WL.st tbk hs23 1 rfl rfl (fun _ hs24 => WL.nil (WC.sr (WL.r 1 hs24 [1] rfl ?_)))))))
 refine WL.st tbk hs24 0 rfl rfl (fun _ hs25 => WL.nil (WC.ret (retV1 rfl (resV.cellA tbk hs25 0 rfl rfl rfl rfl) ?_)))
 obtain ⟨L26, L27, L28, L29, hs34, ho30, ho31, ho32, ho33⟩ := ownScrR.op hs25 ho20
 have hs35 := ((hs34.fb b2).fb b4)
 obtain ⟨L37, hs36, ho38⟩ := ownScrR.fl hs35 ho30 ho31 ho32 ho33
 have hs39 := ((hs36.fb b2).fb b4)
 refine ownScrR.ret rfl (St.keep1 (hs39.fr L37)) ho38 ?_
 · unfold linesD; rw [if_pos hwi]; show _ = ({ rollD s.dat s.Y s.Bot n with X := 0, Wrap := false } : ScrD); rw [show rollD s.dat s.Y s.Bot n = putD s.dat (gRoll (shownD s.dat) s.Y s.Bot n) from rfl, ← shownR_dat, ← hgr, ← hpt]; rfl
theorem k52_ (s : ScrR) (L_s : Hp) (n : Int) (on : Bool) (w : World) (o_s : ownScrR s L_s) (h_s : Hh w L_s) (hd_ : ((L_s).map (·.1)).Nodup) (hf : ScrFine s.dat) (hsmB : smScr 549755813888 s.dat) :
    Calls Tryz.prog 100 #[.agg (cScr s).toArray, i64 n, .bool on] w fun e w' => ∃ r L1, e = .returned (.agg (cScr r).toArray) ∧ St w ((L_s).map (·.1)) L1 w' ∧ ownScrR r L1 ∧ r.dat = modeD s.dat n on := by
 have hwh : (1 ≤ s.W ∧ s.W ≤ 120) ∧ 1 ≤ s.H ∧ s.H ≤ 120 := ⟨(isSize_bnd hf.size).1, (isSize_bnd hf.size).2.1⟩
 have hxy := hf.pos
 simp only [ScrR.dat, GridR.dat] at hxy
 have hsz : isSize s.W s.H = true := hf.size
 have hf3 : ScrFine { s.dat with OnAlt := false } := ⟨hf.gM, hf.gA, hf.dim, hf.pos, hf.sav, hf.wrp, hf.aA, hf.aS, hf.reg, hf.lim, hf.tab, hf.row⟩
 have hsB3 := fine_smB (B := 549755813888) hf3 (by decide)
 refine enter 54 Tryz.func100 rfl Tryz.ntmps100 rfl rfl ?_
 have hs1 := St.takes1 w L_s h_s hd_
 refine WC.sr (WL.bx hs1 rfl (fun b2 _ hs3 => WL.al hs3 Tryz.zeroValue33 rfl rfl (fun b4 _ hs5 => WL.nil (WC.seq (fun K6 hK6 => WC.r1 hs5 [] rfl (WC.block (WC.r1 hs5 [] rfl ?_)))))))
 refine WC.cq rfl (fun h7 qh7 => ?_) (fun h7 qh7 => ?_)
 ·have e7 : n = 7 := by have h9 := h7; simpa using h9
  refine WC.sr (WL.r 3 hs5 [] rfl (WL.st tbk hs5 1 rfl rfl (fun _ hs8 => WL.nil (WC.region (WL.r 3 hs8 [1] rfl (WL.pA tbk 1 Acts.nil hs8 [] rfl rfl rfl rfl (fun g_ => trivial) (WL.r 1 hs8 [] rfl ?_)))))))
  refine WL.st tbk hs8 1 rfl rfl (fun _ hs9 => WL.nil (hK6 _ _ (WC.sr (WL.r 1 hs9 [1] rfl (WL.st tbk hs9 0 rfl rfl (fun _ hs10 => WL.nil (WC.ret ?_)))))))
  refine retV1 rfl (resV.cellA tbk hs10 0 rfl rfl rfl rfl) ?_
  obtain ⟨L11, L12, L13, L14, hs19, ho15, ho16, ho17, ho18⟩ := ownScrR.op hs10 o_s
  have hs20 := ((hs19.fb b2).fb b4)
  obtain ⟨L22, hs21, ho23⟩ := ownScrR.fl hs20 ho15 ho16 ho17 ho18
  have hs24 := ((hs21.fb b2).fb b4)
  refine ownScrR.ret rfl (St.keep1 (hs24.fr L22)) ho23 ?_
  · unfold modeD; rw [if_pos e7]; rfl
 have e7 : ¬ n = 7 := by have h9 := h7; simpa using h9
 refine WC.r1 hs5 [] rfl (WC.cq rfl (fun h25 qh25 => ?_) (fun h25 qh25 => ?_))
 ·have e25 : n = 25 := by have h9 := h25; simpa using h9
  refine WC.region (WL.r 3 hs5 [] rfl (WL.st tbk hs5 1 rfl rfl (fun _ hs26 => WL.nil (hK6 _ _ (WC.sr (WL.r 1 hs26 [1] rfl (WL.st tbk hs26 0 rfl rfl (fun _ hs27 => ?_))))))))
  refine WL.nil (WC.ret (retV1 rfl (resV.cellA tbk hs27 0 rfl rfl rfl rfl) ?_))
  obtain ⟨L28, L29, L30, L31, hs36, ho32, ho33, ho34, ho35⟩ := ownScrR.op hs27 o_s
  have hs37 := ((hs36.fb b2).fb b4)
  obtain ⟨L39, hs38, ho40⟩ := ownScrR.fl hs37 ho32 ho33 ho34 ho35
  have hs41 := ((hs38.fb b2).fb b4)
  refine ownScrR.ret rfl (St.keep1 (hs41.fr L39)) ho40 ?_
  · unfold modeD; rw [if_neg e7, if_pos e25]; rfl
 have e25 : ¬ n = 25 := by have h9 := h25; simpa using h9
 refine WC.r1 hs5 [] rfl (WC.cq rfl (fun h42 qh42 => ?_) (fun h42 qh42 => ?_))
 ·have e1049 : n = 1049 := by have h9 := h42; simpa using h9
  refine WC.sr (WL.r 2 hs5 [] rfl (WL.pA tbk 3 Acts.nil hs5 [1] rfl rfl rfl rfl (fun g_ => ⟨rfl, trivial⟩) (WL.nil (WC.cq rfl (fun h43 qh43 => ?_) (fun h43 qh43 => ?_)))))
  ·have a1 : (n = 1049 ∧ on = true) ∧ s.dat.OnAlt = false := by show (n = 1049 ∧ on = true) ∧ s.OnAlt = false; have h9 := h43; simp at h9; exact ⟨⟨e1049, h9.1⟩, h9.2⟩
   refine WC.sr (WL.r 1 hs5 [1] rfl (WL.cl Tryz.call67 rfl (k42_ s _ _ o_s (hs5.ow L_s) (St.nodupL (hs5.fr L_s))) ?_))
   rintro _ whs44 ⟨r45, L1_46, rfl, hs44, ho47, hd48⟩
   replace hs44 := St.lend (hs5.fr L_s) hs44
   refine ⟨_, rfl, ?_⟩
   replace hs44 := St.back [_, _] hs44
   have hsv := hd48
   have hrW : r45.W = s.W := congrArg ScrD.W hsv
   have hrH : r45.H = s.H := congrArg ScrD.H hsv
   refine WL.st tbk hs44 1 rfl rfl (fun _ hs49 => WL.nil (WC.sr (WL.r 4 hs49 [1, 1] rfl (WL.cl Tryz.call146 rfl (k17_ _ _ _) ?_))))
   rintro _ whs50 ⟨r0_51, L0_52, rfl, hs50, ho53, hd0_54⟩
   replace hs50 := hs49.callF hs50
   refine ⟨_, rfl, ?_⟩
   replace hs50 := St.back [_, _] hs50
   refine WL.r 4 hs50 [] rfl (WL.st tbk hs50 1 rfl rfl (fun _ hs55 => WL.nil (WC.region (WL.r 1 hs55 [] rfl (WL.st tbk hs55 1 rfl rfl (fun _ hs56 => WL.nil (hK6 _ _ ?_)))))))
   refine WC.sr (WL.r 1 hs56 [1] rfl (WL.st tbk hs56 0 rfl rfl (fun _ hs57 => WL.nil (WC.ret (retV1 rfl (resV.cellA tbk hs57 0 rfl rfl rfl rfl) ?_)))))
   obtain ⟨L58, L59, L60, L61, hs66, ho62, ho63, ho64, ho65⟩ := ownScrR.op hs57 ho47
   have hs67 := ((hs66.fb b2).fb b4)
   obtain ⟨L69, hs68, ho70⟩ := ownScrR.fl hs67 ho62 ho53 ho64 ho65
   have hs71 := ((hs68.fb b2).fb b4)
   refine ownScrR.ret rfl (St.keep1 (hs71.fr L69)) ho70 ?_
   · unfold modeD; rw [if_neg e7, if_neg e25, if_pos a1]; show _ = ({ saveD s.dat with Alt := gridNew s.W s.H, OnAlt := true } : ScrD); rw [← gridRes_eq hsz, ← hrW, ← hrH, ← hd0_54, ← hsv]; rfl
  have a1 : ¬ ((n = 1049 ∧ on = true) ∧ s.dat.OnAlt = false) := by show ¬ ((n = 1049 ∧ on = true) ∧ s.OnAlt = false); rintro ⟨⟨z1, z2⟩, z3⟩; have h9 := h43; simp [z2, z3] at h9
  refine WC.sr (WL.r 3 hs5 [] rfl (WL.pA tbk 2 Acts.nil hs5 [1] rfl rfl rfl rfl (fun g_ => ⟨rfl, trivial⟩) (WL.nil (WC.cq rfl (fun h72 qh72 => ?_) (fun h72 qh72 => ?_)))))
  ·have a2 : (n = 1049 ∧ on = false) ∧ s.dat.OnAlt = true := by show (n = 1049 ∧ on = false) ∧ s.OnAlt = true; have h9 := h72; simp at h9; exact ⟨⟨e1049, h9.1⟩, h9.2⟩
   refine WC.sr (WL.r 1 hs5 [] rfl (WL.st tbk hs5 1 rfl rfl (fun _ hs73 => WL.nil (WC.region (WL.r 1 hs73 [1] rfl ?_)))))
   obtain ⟨L74, L75, L76, L77, hs82, ho78, ho79, ho80, ho81⟩ := ownScrR.op hs73 o_s
   have hs83 := ((hs82.fb b2).fb b4)
   obtain ⟨L85, hs84, ho86⟩ := ownScrR.fl hs83 ho78 ho79 ho80 ho81
   have hs87 := ((hs84.fb b2).fb b4)
   refine WL.cl Tryz.call68 rfl (k43_ ⟨s.W, s.H, ⟨s.Main.W, s.Main.H, SlD.of ho78⟩, ⟨s.Alt.W, s.Alt.H, SlD.of ho79⟩, false, s.X, s.Y, s.Wrap, ⟨s.A.Fg, s.A.Bg, s.A.Bold, s.A.Under, s.A.Turn⟩, s.Top, s.Bot, s.NoWrap, s.Hide, s.SaveX, s.SaveY, ⟨s.SaveA.Fg, s.SaveA.Bg, s.SaveA.Bold, s.SaveA.Under, s.SaveA.Turn⟩, SlD.of ho80, s.Limit, SlD.ofN ho81⟩ _ _ (by exact ho86) (hs87.ow L85) (St.nodupL (hs87.fr L85))) ?_
   rintro _ whs88 ⟨r89, L1_90, rfl, hs88, ho91, hd92⟩
   replace hs88 := St.lend (hs87.fr L85) hs88
   refine ⟨_, rfl, ?_⟩
   replace hs88 := St.back [_, _] hs88
   refine WL.st tbk hs88 1 rfl rfl (fun _ hs93 => WL.nil (hK6 _ _ (WC.sr (WL.r 1 hs93 [1] rfl (WL.st tbk hs93 0 rfl rfl (fun _ hs94 => WL.nil (WC.ret ?_)))))))
   refine retV1 rfl (resV.cellA tbk hs94 0 rfl rfl rfl rfl) (⟨r89, _, rfl, (St.keep1 (hs94.fr L1_90)), ?_, ?_⟩)
   · exact ho91
   · unfold modeD; rw [if_neg e7, if_neg e25, if_neg a1, if_pos a2]; exact hd92
  have a2 : ¬ ((n = 1049 ∧ on = false) ∧ s.dat.OnAlt = true) := by show ¬ ((n = 1049 ∧ on = false) ∧ s.OnAlt = true); rintro ⟨⟨z1, z2⟩, z3⟩; have h9 := h72; simp [z2, z3] at h9
  refine WC.skip (hK6 _ _ (WC.sr (WL.r 1 hs5 [1] rfl (WL.st tbk hs5 0 rfl rfl (fun _ hs95 => WL.nil (WC.ret (retV1 rfl (resV.cellA tbk hs95 0 rfl rfl rfl rfl) ?_)))))))
  refine ⟨s, _, rfl, (St.keep1 (hs95.fr L_s)), ?_, ?_⟩
  · exact o_s
  · unfold modeD; rw [if_neg e7, if_neg e25, if_neg a1, if_neg a2]
 have e1049 : ¬ n = 1049 := by have h9 := h42; simpa using h9
 refine WC.skip (hK6 _ _ (WC.sr (WL.r 1 hs5 [1] rfl (WL.st tbk hs5 0 rfl rfl (fun _ hs96 => WL.nil (WC.ret (retV1 rfl (resV.cellA tbk hs96 0 rfl rfl rfl rfl) ?_)))))))
 refine ⟨s, _, rfl, (St.keep1 (hs96.fr L_s)), ?_, ?_⟩
 · exact o_s
 · unfold modeD; rw [if_neg e7, if_neg e25, if_neg (fun h9 => e1049 h9.1.1), if_neg (fun h9 => e1049 h9.1.1)]
theorem k53_ (A_l : Option Addr) (n_l c_l : Nat) (l : List Int) (x : Int) (w : World) (f_l : SlF encI w A_l n_l l) (hn : n_l ≤ 549755813888) :
    Calls Tryz.prog 69 #[.slice A_l n_l c_l, i64 x] w fun e w' => e = .returned (.bool (l.contains x)) ∧ St w [] [] w' := by
 have hl := f_l.len
 refine enter 17 Tryz.func69 rfl Tryz.ntmps69 rfl rfl ?_
 have hs1 := St.init w
 refine WC.r1 hs1 [] rfl (WC.seq (fun K2 hK2 => WC.r1 hs1 [] rfl (WC.block ?_)))
 refine WC.lS [1, 7, 8] rfl hs1 (fun k_ f w' => ∃ (i : Nat), k_ = n_l - i ∧ (i ≤ n_l) ∧ (∀ j, j < i → iat l j ≠ x) ∧ Sub [(9, .int .i64 i)] f) ((fun (i : Nat) => n_l - i) (0)) ?_ ?_
 ·refine ⟨0, rfl, ?_, ?_, ⟨rfl, trivial⟩⟩
  · exact Nat.zero_le _
  · exact fun j hj => absurd hj (by omega)
 clear hs1
 rintro _ f w ⟨i, rfl, p0, p1, hG⟩ hF hs3
 refine WC.sub _ (hG.app hF) ?_
 clear hG hF
 refine WC.r1 hs3 [] rfl (WC.seq (fun K4 hK4 => ?_))
 refine WC.cD rfl (fun qh5 => ?_) (fun qh5 => ?_)
 ·refine WC.skip (hK4 _ _ (WC.seq (fun K6 hK6 => WC.block (WC.sr ?_))))
  refine WL.val rfl rfl rfl (Run.idxN Tryz.runUnderlying23 Tryz.sizeOf3 rfl rfl rfl ?_ ?_ ?_) ?_
  · exact SlF.some_ (SlF.st0 f_l hs3)
  · omega
  · omega
  refine WL.val rfl rfl rfl (Run.load Tryz.isAgg3 rfl rfl (SlF.one1 (SlF.st0 f_l hs3) ?_ rfl)) ?_
  · omega
  refine WL.r 1 hs3 [] rfl (WL.nil (WC.r1 hs3 [] rfl (WC.cD rfl (fun qh7 => ?_) (fun qh7 => ?_))))
  ·refine WC.r1 hs3 [] rfl (WC.ret (ibR (tkR (tkR (ibR (tkR ?_))))))
   clear hK6 hK2
   refine rtv rfl rfl hs3 ?_
   congr 1; symm; rw [List.contains_iff_mem]; rw [← qh7]; exact gat_mem (F := encI) (by omega)
  refine WC.skip (hK6 _ _ (WC.region (WL.r 2 hs3 [] rfl (WL.nil (tkN ?_)))))
  refine ⟨sbF rfl, hs3, _, ?_, i + 1, rfl, ?_, ?_, ⟨rfl, trivial⟩⟩
  · omega
  · omega
  · intro j hj; rcases Nat.lt_or_ge j i with h_ | h_
    · exact p1 j h_
    · obtain rfl : j = i := by omega
      exact qh7
 refine WC.exit (hK2 _ _ (WC.r1 hs3 [] rfl (WC.ret (rtv rfl rfl hs3 ?_))))
 congr 1; symm; rw [← Bool.not_eq_true, List.contains_iff_mem]; exact int_not (fun j hj => p1 j (by omega))
theorem built_30 : Tryz.prog.built 30 [] = some (List.toArray [.int .i64 0, .int .i64 0, .bool false, .bool false, .bool false]) := by kernel_rfl
theorem k54_ (a_Fg : Int) (a_Bg : Int) (a_Bold : Bool) (a_Under : Bool) (a_Turn : Bool) (n : Int) (w : World) (hn : 0 ≤ n ∧ n ≤ 9999) :
    Calls Tryz.prog 232 #[.agg #[i64 a_Fg, i64 a_Bg, .bool a_Bold, .bool a_Under, .bool a_Turn], i64 n] w fun e w' => ∃ r : AttrD, e = .returned (.agg #[i64 r.Fg, i64 r.Bg, .bool r.Bold, .bool r.Under, .bool r.Turn]) ∧ St w [] [] w' ∧ r = sgrOne (⟨a_Fg, a_Bg, a_Bold, a_Under, a_Turn⟩ : AttrD) n := by
 refine enter 68 Tryz.func232 rfl Tryz.ntmps232 rfl rfl ?_
 have hs1 := St.init w
 refine WC.sr (WL.bx hs1 rfl (fun b2 _ hs3 => WL.al hs3 Tryz.zeroValue30 rfl rfl (fun b4 _ hs5 => WL.nil (WC.seq (fun K6 hK6 => WC.block (WC.r1 hs5 [] rfl ?_))))))
 refine WC.cq rfl (fun h7 qh7 => ?_) (fun h7 qh7 => ?_)
 ·have e0 : n = 0 := by have h9 := h7; simp at h9; first | exact h9 | omega
  refine WC.sr ?_
  refine WL.val rfl rfl rfl (Run.build rfl rfl rfl rfl (built_30)) (WL.st tbk hs5 0 rfl rfl (fun _ hs8 => WL.nil (WC.ret (ibR (tkR ?_)))))
  clear hK6
  refine retV1 rfl (resV.cellA tbk hs8 0 rfl rfl rfl rfl) (⟨sgrOne (⟨a_Fg, a_Bg, a_Bold, a_Under, a_Turn⟩ : AttrD) n, congrArg Ending.returned ?_, hs8.nil, rfl⟩)
  unfold sgrOne
  rw [if_pos e0]
  try rfl
 have e0 : ¬ (n = 0) := by intro h8; have h9 := h7; simp at h9; omega
 refine WC.sr (WL.r 3 hs5 [] rfl (WL.pO tbk 2 Acts.nil hs5 [] rfl rfl rfl rfl (fun g_ => trivial) (WL.r 1 hs5 [] rfl (WL.nil (WC.cq rfl (fun h9 qh9 => ?_) (fun h9 qh9 => ?_))))))
 ·have e1 : n = 1 ∨ n = 22 := by have h9 := h9; simp at h9; first | exact h9 | omega
  refine WC.region (WL.r 3 hs5 [] rfl (WL.st tbk hs5 1 rfl rfl (fun _ hs10 => WL.nil (hK6 _ _ (WC.sr (WL.r 1 hs10 [1] rfl (WL.st tbk hs10 0 rfl rfl (fun _ hs11 => ?_))))))))
  refine WL.nil (WC.ret (retV1 rfl (resV.cellA tbk hs11 0 rfl rfl rfl rfl) (⟨sgrOne (⟨a_Fg, a_Bg, a_Bold, a_Under, a_Turn⟩ : AttrD) n, congrArg Ending.returned ?_, hs11.nil, rfl⟩)))
  unfold sgrOne
  rw [if_neg e0, if_pos e1]
  try rfl
 have e1 : ¬ (n = 1 ∨ n = 22) := by intro h8; have h9 := h9; simp at h9; omega
 refine WC.sr (WL.r 3 hs5 [] rfl (WL.pO tbk 2 Acts.nil hs5 [] rfl rfl rfl rfl (fun g_ => trivial) (WL.r 1 hs5 [] rfl (WL.nil (WC.cq rfl (fun h12 qh12 => ?_) (fun h12 qh12 => ?_))))))
 ·have e4 : n = 4 ∨ n = 24 := by have h9 := h12; simp at h9; first | exact h9 | omega
  refine WC.region (WL.r 3 hs5 [] rfl (WL.st tbk hs5 1 rfl rfl (fun _ hs13 => WL.nil (hK6 _ _ (WC.sr (WL.r 1 hs13 [1] rfl (WL.st tbk hs13 0 rfl rfl (fun _ hs14 => ?_))))))))
  refine WL.nil (WC.ret (retV1 rfl (resV.cellA tbk hs14 0 rfl rfl rfl rfl) (⟨sgrOne (⟨a_Fg, a_Bg, a_Bold, a_Under, a_Turn⟩ : AttrD) n, congrArg Ending.returned ?_, hs14.nil, rfl⟩)))
  unfold sgrOne
  rw [if_neg e0, if_neg e1, if_pos e4]
  try rfl
 have e4 : ¬ (n = 4 ∨ n = 24) := by intro h8; have h9 := h12; simp at h9; omega
 refine WC.sr (WL.r 3 hs5 [] rfl (WL.pO tbk 2 Acts.nil hs5 [] rfl rfl rfl rfl (fun g_ => trivial) (WL.r 1 hs5 [] rfl (WL.nil (WC.cq rfl (fun h15 qh15 => ?_) (fun h15 qh15 => ?_))))))
 ·have e7 : n = 7 ∨ n = 27 := by have h9 := h15; simp at h9; first | exact h9 | omega
  refine WC.region (WL.r 3 hs5 [] rfl (WL.st tbk hs5 1 rfl rfl (fun _ hs16 => WL.nil (hK6 _ _ (WC.sr (WL.r 1 hs16 [1] rfl (WL.st tbk hs16 0 rfl rfl (fun _ hs17 => ?_))))))))
  refine WL.nil (WC.ret (retV1 rfl (resV.cellA tbk hs17 0 rfl rfl rfl rfl) (⟨sgrOne (⟨a_Fg, a_Bg, a_Bold, a_Under, a_Turn⟩ : AttrD) n, congrArg Ending.returned ?_, hs17.nil, rfl⟩)))
  unfold sgrOne
  rw [if_neg e0, if_neg e1, if_neg e4, if_pos e7]
  try rfl
 have e7 : ¬ (n = 7 ∨ n = 27) := by intro h8; have h9 := h15; simp at h9; omega
 refine WC.sr (WL.r 3 hs5 [] rfl (WL.pA tbk 2 Acts.nil hs5 [] rfl rfl rfl rfl (fun g_ => trivial) (WL.r 1 hs5 [] rfl (WL.nil (WC.cq rfl (fun h18 qh18 => ?_) (fun h18 qh18 => ?_))))))
 ·have e30 : 30 ≤ n ∧ n ≤ 37 := by have h9 := h18; simp at h9; first | exact h9 | omega
  refine WC.region (WL.r 3 hs5 [] rfl (WL.st tbk hs5 1 rfl rfl (fun _ hs19 => WL.nil (hK6 _ _ (WC.sr (WL.r 1 hs19 [1] rfl (WL.st tbk hs19 0 rfl rfl (fun _ hs20 => ?_))))))))
  refine WL.nil (WC.ret (retV1 rfl (resV.cellA tbk hs20 0 rfl rfl rfl rfl) (⟨sgrOne (⟨a_Fg, a_Bg, a_Bold, a_Under, a_Turn⟩ : AttrD) n, congrArg Ending.returned ?_, hs20.nil, rfl⟩)))
  unfold sgrOne
  rw [if_neg e0, if_neg e1, if_neg e4, if_neg e7, if_pos e30]
  try rfl
 have e30 : ¬ (30 ≤ n ∧ n ≤ 37) := by intro h8; have h9 := h18; simp at h9; omega
 refine WC.r1 hs5 [] rfl (WC.cq rfl (fun h21 qh21 => ?_) (fun h21 qh21 => ?_))
 ·have e39 : n = 39 := by have h9 := h21; simp at h9; first | exact h9 | omega
  refine WC.region (WL.r 1 hs5 [] rfl (WL.st tbk hs5 1 rfl rfl (fun _ hs22 => WL.nil (hK6 _ _ (WC.sr (WL.r 1 hs22 [1] rfl (WL.st tbk hs22 0 rfl rfl (fun _ hs23 => ?_))))))))
  refine WL.nil (WC.ret (retV1 rfl (resV.cellA tbk hs23 0 rfl rfl rfl rfl) (⟨sgrOne (⟨a_Fg, a_Bg, a_Bold, a_Under, a_Turn⟩ : AttrD) n, congrArg Ending.returned ?_, hs23.nil, rfl⟩)))
  unfold sgrOne
  rw [if_neg e0, if_neg e1, if_neg e4, if_neg e7, if_neg e30, if_pos e39]
  try rfl
 have e39 : ¬ (n = 39) := by intro h8; have h9 := h21; simp at h9; omega
 refine WC.sr (WL.r 3 hs5 [] rfl (WL.pA tbk 2 Acts.nil hs5 [] rfl rfl rfl rfl (fun g_ => trivial) (WL.r 1 hs5 [] rfl (WL.nil (WC.cq rfl (fun h24 qh24 => ?_) (fun h24 qh24 => ?_))))))
 ·have e40 : 40 ≤ n ∧ n ≤ 47 := by have h9 := h24; simp at h9; first | exact h9 | omega
  refine WC.region (WL.r 3 hs5 [] rfl (WL.st tbk hs5 1 rfl rfl (fun _ hs25 => WL.nil (hK6 _ _ (WC.sr (WL.r 1 hs25 [1] rfl (WL.st tbk hs25 0 rfl rfl (fun _ hs26 => ?_))))))))
  refine WL.nil (WC.ret (retV1 rfl (resV.cellA tbk hs26 0 rfl rfl rfl rfl) (⟨sgrOne (⟨a_Fg, a_Bg, a_Bold, a_Under, a_Turn⟩ : AttrD) n, congrArg Ending.returned ?_, hs26.nil, rfl⟩)))
  unfold sgrOne
  rw [if_neg e0, if_neg e1, if_neg e4, if_neg e7, if_neg e30, if_neg e39, if_pos e40]
  try rfl
 have e40 : ¬ (40 ≤ n ∧ n ≤ 47) := by intro h8; have h9 := h24; simp at h9; omega
 refine WC.r1 hs5 [] rfl (WC.cq rfl (fun h27 qh27 => ?_) (fun h27 qh27 => ?_))
 ·have e49 : n = 49 := by have h9 := h27; simp at h9; first | exact h9 | omega
  refine WC.region (WL.r 1 hs5 [] rfl (WL.st tbk hs5 1 rfl rfl (fun _ hs28 => WL.nil (hK6 _ _ (WC.sr (WL.r 1 hs28 [1] rfl (WL.st tbk hs28 0 rfl rfl (fun _ hs29 => ?_))))))))
  refine WL.nil (WC.ret (retV1 rfl (resV.cellA tbk hs29 0 rfl rfl rfl rfl) (⟨sgrOne (⟨a_Fg, a_Bg, a_Bold, a_Under, a_Turn⟩ : AttrD) n, congrArg Ending.returned ?_, hs29.nil, rfl⟩)))
  unfold sgrOne
  rw [if_neg e0, if_neg e1, if_neg e4, if_neg e7, if_neg e30, if_neg e39, if_neg e40, if_pos e49]
  try rfl
 have e49 : ¬ (n = 49) := by intro h8; have h9 := h27; simp at h9; omega
 refine WC.skip (hK6 _ _ (WC.sr (WL.r 1 hs5 [1] rfl (WL.st tbk hs5 0 rfl rfl (fun _ hs30 => WL.nil (WC.ret (retV1 rfl (resV.cellA tbk hs30 0 rfl rfl rfl rfl) ?_)))))))
 refine ⟨sgrOne (⟨a_Fg, a_Bg, a_Bold, a_Under, a_Turn⟩ : AttrD) n, congrArg Ending.returned ?_, hs30.nil, rfl⟩
 unfold sgrOne
 rw [if_neg e0, if_neg e1, if_neg e4, if_neg e7, if_neg e30, if_neg e39, if_neg e40, if_neg e49]
 try rfl
theorem k55_ (a_Fg : Int) (a_Bg : Int) (a_Bold : Bool) (a_Under : Bool) (a_Turn : Bool) (A_l : Option Addr) (n_l c_l : Nat) (l : List Int) (w : World) (f_l : SlF encI w A_l n_l l) (hl : areArgs l = true) (hn : n_l ≤ 549755813888) :
    Calls Tryz.prog 184 #[.agg #[i64 a_Fg, i64 a_Bg, .bool a_Bold, .bool a_Under, .bool a_Turn], .slice A_l n_l c_l] w fun e w' => ∃ r : AttrD, e = .returned (.agg #[i64 r.Fg, i64 r.Bg, .bool r.Bold, .bool r.Under, .bool r.Turn]) ∧ St w [] [] w' ∧ r = sgrRes (⟨a_Fg, a_Bg, a_Bold, a_Under, a_Turn⟩ : AttrD) l := by
 have hll := f_l.len
 refine enter 27 Tryz.func184 rfl Tryz.ntmps184 rfl rfl ?_
 have hs1 := St.init w
 refine WC.sr (WL.bx hs1 rfl (fun b2 _ hs3 => WL.al hs3 Tryz.zeroValue30 rfl rfl (fun b4 _ hs5 => WL.nil (WC.seq (fun K6 hK6 => WC.sr (WL.r 1 hs5 [1] rfl (WL.cl Tryz.call139 rfl (k4_ _ _ _ _ _ _) ?_)))))))
 rintro _ whs7 ⟨rfl, hs7⟩
 replace hs7 := hs5.call0 hs7
 refine ⟨_, rfl, WL.r 2 hs7 [] rfl (WL.pO tbk 3 Acts.nil hs7 [] rfl rfl rfl rfl (fun g_ => trivial) (WL.nil (WC.cq rfl (fun h8 qh8 => ?_) (fun h8 qh8 => ?_))))⟩
 ·have hk : ¬ (attrOk a_Fg a_Bg = true ∧ 0 < l.length) := by rintro ⟨z7, z8⟩; have h9 := h8; first | (simp [z7] at h9; omega) | (simp [z7] at h9)
  refine WC.sr ?_
  refine WL.val rfl rfl rfl (Run.build rfl rfl rfl rfl (built_30)) (WL.st tbk hs7 0 rfl rfl (fun _ hs9 => WL.nil (WC.ret (tkR ?_))))
  clear hK6
  refine retV1 rfl (resV.cellA tbk hs9 0 rfl rfl rfl rfl) ?_
  exact ⟨⟨0, 0, false, false, false⟩, rfl, hs9.nil, by unfold sgrRes; rw [if_neg hk]⟩
 have hc0 := h8
 have hk2 : attrOk a_Fg a_Bg = true ∧ 0 < l.length := by (try simp at hc0); (try simp at hc1); first | exact ⟨hc0, by omega⟩ | exact ⟨hc0.1, by omega⟩
 refine WC.skip (hK6 _ _ (WC.seq (fun K10 hK10 => WC.r1 hs7 [] rfl (WC.block ?_))))
 have hM11 := (St.grp0 [_] (hs7.fb b2))
 refine WC.lV [2, 4, 14, 16, 17] rfl hM11 (fun k_ (a_ : Hp) f => ∃ (i : Nat) (q : AttrD), k_ = n_l - i ∧ a_ = [(b2, .cells (List.toArray [i64 q.Fg, i64 q.Bg, .bool q.Bold, .bool q.Under, .bool q.Turn]) 30 (0, 0))] ∧ (i ≤ n_l) ∧ (q = sgrAll (⟨a_Fg, a_Bg, a_Bold, a_Under, a_Turn⟩ : AttrD) (l.take i)) ∧ Sub [(18, .int .i64 i)] f) (((fun (i : Nat) (q : AttrD) => n_l - i) (0) ((⟨a_Fg, a_Bg, a_Bold, a_Under, a_Turn⟩ : AttrD)))) ?_ ?_
 ·refine ⟨0, (⟨a_Fg, a_Bg, a_Bold, a_Under, a_Turn⟩ : AttrD), rfl, rfl, ?_, ?_, ⟨rfl, trivial⟩⟩
  · exact Nat.zero_le _
  · rfl
 rintro _ _ f w ⟨i, q, rfl, rfl, p0, p1, hG⟩ hF hs12
 refine WC.sub _ (hG.app hF) ?_
 clear hG hF
 replace hs12 := St.ungrp0 [_] hs12
 have hs13 := ((hs12.fb b4).fb b2)
 refine WC.r1 hs13 [] rfl (WC.seq (fun K14 hK14 => ?_))
 refine WC.cq rfl (fun h15 qh15 => ?_) (fun h15 qh15 => ?_)
 ·have hnn := (areArgs_iff.1 hl).2 _ (gat_mem (F := encI) (show i < l.length by omega))
  refine WC.skip (hK14 _ _ (WC.seq (fun K16 hK16 => WC.block (WC.sr ?_))))
  refine WL.val rfl rfl rfl (Run.idxN Tryz.runUnderlying23 Tryz.sizeOf3 rfl rfl rfl ?_ ?_ ?_) ?_
  · exact SlF.some_ (SlF.st0 f_l hs13)
  · omega
  · omega
  refine WL.val rfl rfl rfl (Run.load Tryz.isAgg3 rfl rfl (SlF.one1 (SlF.st0 f_l hs13) ?_ rfl)) ?_
  · omega
  refine WL.r 1 hs13 [] rfl (WL.nil (WC.region (WL.r 2 hs13 [0] rfl (WL.cl Tryz.call232 rfl (k54_ _ _ _ _ _ _ _ ?_) ?_))))
  · first | assumption | rfl | omega
  rintro _ whs17 ⟨r18, rfl, hs17, hr19⟩
  replace hs17 := hs13.callF hs17
  refine ⟨_, rfl, ?_⟩
  rw [List.nil_append] at hs17
  replace hs17 := St.perm hs17 (L' := [_, _] ++ _) pR
  refine WL.st tbk hs17 0 rfl rfl (fun _ hs20 => WL.nil (hK16 _ _ (WC.region (WL.r 2 hs20 [] rfl (WL.nil (tkN ?_))))))
  have hF21 := (St.grp0 [_] ((hs20.fb b4).fb b2))
  refine ⟨sbF rfl, _, hF21, _, ?_, i + 1, r18, rfl, rfl, ?_, ?_, ⟨rfl, trivial⟩⟩
  · omega
  · omega
  · rw [sgrAll_take (by omega), ← p1]; exact hr19
 refine WC.exit (hK10 _ _ (WC.sr (WL.r 1 hs13 [0] rfl (WL.st tbk hs13 1 rfl rfl (fun _ hs22 => WL.nil (WC.ret (retV1 rfl (resV.cellA tbk hs22 1 rfl rfl rfl rfl) ?_)))))))
 exact ⟨q, rfl, hs22.nil, by unfold sgrRes; rw [if_pos hk2, p1, List.take_of_length_le (by omega)]⟩
theorem k56_ (g : GridR) (x : Int) (y : Int) (n : Int) (w : World) (f_g : okGridR 549755813888 w g) (hg : gridOk g.dat = true) (hx : 0 ≤ x ∧ x < g.W) (hy : 0 ≤ y ∧ y < g.H) (hn : -100000 ≤ n ∧ n ≤ 100000) :
    Calls Tryz.prog 181 #[.agg #[i64 g.W, i64 g.H, .slice g.Cells.A g.Cells.n g.Cells.c], i64 x, i64 y, i64 n] w fun e w' => ∃ r L1, e = .returned (.agg #[i64 r.W, i64 r.H, .slice r.Cells.A r.Cells.n r.Cells.c]) ∧ St w [] L1 w' ∧ ownGridR r L1 ∧ r.dat = gShift g.dat x y n := by
 have nb_g_Cells := f_g.Cells_n
 have nl_g_Cells := f_g.Cells.len
 have hgb : (1 ≤ g.W ∧ g.W ≤ 120) ∧ (1 ≤ g.H ∧ g.H ≤ 120) ∧ 1 ≤ g.W * g.H ∧ g.W * g.H ≤ 4000 := gridOk_bnd hg
 have hgl : (g.Cells.xs.length : Int) = g.W * g.H := grid_len hg
 have hsmg : smGrid 1048576 g.dat := by show g.Cells.xs.length ≤ 1048576; omega
 have hsmgB : smGrid 549755813888 g.dat := Nat.le_trans hsmg (by decide)
 have hv0 : 0 ≤ y * g.W := Int.mul_nonneg (by omega) (by omega)
 have hv1 : (y + 1) * g.W = y * g.W + g.W := by rw [Int.add_mul, Int.one_mul]
 have hv2 : (y + 1) * g.W ≤ g.H * g.W := Int.mul_le_mul_of_nonneg_right (by omega) (by omega)
 rw [Int.mul_comm g.H g.W] at hv2
 have hlo2 : (y * g.W).toNat = y.toNat * g.W.toNat := Int.toNat_mul (by omega) (by omega)
 have hnz : ((y.toNat * g.W.toNat : Nat) : Int) = y * g.W := by rw [← hlo2]; omega
 refine enter 103 Tryz.func181 rfl Tryz.ntmps181 rfl rfl ?_
 have hs1 := St.init w
 refine WC.sr (WL.bx hs1 rfl (fun b2 _ hs3 => WL.al hs3 Tryz.zeroValue28 rfl rfl (fun b4 _ hs5 => WL.nil (WC.seq (fun K6 hK6 => WC.sr (WL.r 1 hs5 [1] rfl (WL.cl Tryz.call138 rfl (k28_ g _ (okGridR.st0 f_g hs5)) ?_)))))))
 rintro _ whs7 ⟨rfl, hs7⟩
 replace hs7 := hs5.call0 hs7
 refine ⟨_, rfl, WL.r 2 hs7 [] rfl (WL.pO tbk 2 Acts.nil hs7 [] rfl rfl rfl rfl (fun g_ => trivial) (WL.r 1 hs7 [] rfl (WL.pO tbk 4 Acts.nil hs7 [1] rfl rfl rfl rfl (fun g_ => ⟨rfl, trivial⟩) (WL.r 1 hs7 [] rfl (WL.pO tbk 2 Acts.nil hs7 [] rfl rfl rfl rfl (fun g_ => trivial) (WL.r 1 hs7 [] rfl ?_))))))⟩
 refine WL.pO tbk 4 Acts.nil hs7 [1] rfl rfl rfl rfl (fun g_ => ⟨rfl, trivial⟩) (WL.nil (WC.cq rfl (fun h8 qh8 => ?_) (fun h8 qh8 => ?_)))
 ·exfalso; have h9 := h8; simp [hg] at h9; omega
 refine WC.skip (hK6 _ _ (WC.seq (fun K9 hK9 => WC.r1 hs7 [1] rfl ?_)))
 refine WC.mergeK [(1, _), (2, _), (4, _), (8, _), (33, _), (38, _)] 3 (i64 (min n g.W)) hs7 ⟨rfl, rfl, rfl, rfl, rfl, rfl, trivial⟩ (fun f whs11 hF12 hs11 => ?_) (fun hJ10 => ?_)
 ·refine hK9 _ _ (WC.sub _ hF12 ?_)
  clear hF12
  refine WC.seq (fun K13 hK13 => WC.r1 hs11 [1] rfl ?_)
  refine WC.mergeK [(1, _), (2, _), (4, _), (8, _), (33, _), (38, _), (45, _)] 3 (i64 (max (min n g.W) (-g.W))) hs11 ⟨rfl, rfl, rfl, rfl, rfl, rfl, rfl, trivial⟩ (fun f whs15 hF16 hs15 => ?_) (fun hJ14 => ?_)
  ·refine hK13 _ _ (WC.sub _ hF16 ?_)
   clear hF16
   refine WC.sr (WL.r 1 hs15 [1] rfl (WL.cl Tryz.call141 rfl (k16_ g _ (okGridR.st0 f_g hs15) ?_) ?_))
   · first | assumption | rfl | omega | (exact Nat.le_trans hsmg (by decide))
   rintro _ whs17 ⟨r18, L1_19, rfl, hs17, ho20, hd21⟩
   replace hs17 := hs15.callF hs17
   refine ⟨_, rfl, ?_⟩
   replace hs17 := St.back [_, _] hs17
   have hd0 := hd21
   refine WL.al hs17 Tryz.zeroValue28 rfl rfl (fun b22 _ hs23 => WL.st tbk hs23 0 rfl rfl (fun _ hs24 => WL.nil (WC.seq (fun K25 hK25 => WC.r1 hs24 [] rfl (WC.block ?_)))))
   have hM30 := (St.grp1 (L1 := L1_19) [_] ((((hs24.fb b2).fb b4).fr L1_19).fb b22))
   refine WC.lV [1, 2, 3, 4, 8, 9, 33, 38, 45] rfl hM30 (fun k_ (a_ : Hp) f => ∃ (a : Nat) (r : GridR) (L28 : Hp), k_ = (g.W - x).toNat - a ∧ a_ = [(b22, .cells (List.toArray [i64 r.W, i64 r.H, .slice r.Cells.A r.Cells.n r.Cells.c]) 28 (0, 0))] ++ L28 ∧ ((a : Int) ≤ g.W - x) ∧ (r.W = g.W ∧ r.H = g.H ∧ r.Cells.xs.length = g.Cells.xs.length) ∧ (∀ k, k < g.Cells.xs.length → cat r.Cells.xs k = partF g.dat (shiftF g.dat x y ((max (min n g.W) (-g.W)))) (y.toNat * g.dat.W.toNat + x.toNat) a k) ∧ ownGridR r L28 ∧ Sub [(10, .int .i64 (x + a))] f) (((fun (a : Nat) => (g.W - x).toNat - a) (0))) ?_ ?_
   ·refine ⟨0, r18, L1_19, rfl, rfl, ?_, ?_, ?_, ho20, ⟨?_, trivial⟩⟩
    · omega
    · exact ⟨congrArg GridD.W hd0, congrArg GridD.H hd0, congrArg (fun d : GridD => d.Cells.length) hd0⟩
    · intro k hk; rw [partF_zero]; exact congrArg (fun d : GridD => cat d.Cells k) hd0
    · (refine congrArg some (congrArg (Value.int _) ?_); omega)
   rintro _ _ f w ⟨a, r, L28, rfl, rfl, p0, p1, p2, ho29, hG⟩ hF hs31
   refine WC.sub _ (hG.app hF) ?_
   clear hG hF
   replace hs31 := St.ungrp1 [_] hs31
   have hs32 := (((hs31.fb b2).fb b4).fb b22)
   have hsmr : smGrid 549755813888 r.dat := by show r.Cells.xs.length ≤ 549755813888; omega
   have hnr := ownGridR.len ‹ownGridR r _›
   refine WC.seq (fun K33 hK33 => WC.r1 hs32 [2] rfl ?_)
   refine WC.cq rfl (fun h34 qh34 => ?_) (fun h34 qh34 => ?_)
   ·refine WC.skip (hK33 _ _ (WC.seq (fun K35 hK35 => WC.block (WC.seq (fun K36 hK36 => WC.rG 10 (hs32.rm L28) hs32 hs32 (fun _ hs37 => ?_))))))
    refine WG.rn [0, 1, 2, 3, 4, 5, 6, 7] hs37 [0, 2] rfl rfl (WG.o1 8 rfl rfl (WL.cl Tryz.call180 rfl (k15_ _) ?_))
    rintro _ whs38 ⟨rfl, hs38⟩
    replace hs38 := hs37.call0 hs38
    refine ⟨_, rfl, WL.nil ⟨hs38, ?_⟩⟩
    refine WG.tk 9 rfl (by kernel_rfl) rfl rfl rfl hs38 (fun w_ hs_ => (Run.idx Tryz.runUnderlying26 Tryz.sizeOf75 rfl rfl rfl ?_ ?_ ?_)) ?_
    · exact SlF.some_ (ownGridR.ok (B := 549755813888) ho29 ((hs_ : St _ _ _ _).ow L28) hsmr).Cells
    · first | omega | (simp only [List.length_set]; omega)
    · first | omega | (simp only [List.length_set]; omega)
    refine WG.oK rfl (WL.storeF1 (x' := blankC) (hs38.fr L28) ho29 Tryz.sizeOf75 rfl rfl rfl rfl rfl rfl rfl rfl rfl ?_ rfl (fun L39 whs40 hs40 ho41 _ => ?_))
    · first | omega | (simp only [List.length_set]; omega)
    replace hs40 := St.back [_, _, _] hs40
    refine WL.nil ⟨(hs40.rm L39), WH.dn (hK36 _ _ (WC.sr (WL.r 6 hs40 [] rfl ?_)))⟩
    refine WL.pA tbk 6 Acts.nil hs40 [2] rfl rfl rfl rfl (fun g_ => by (try simp only [bf, within_iff, within_not] at g_); exact ⟨rfl, by omega, trivial⟩) (WL.nil (WC.cq rfl (fun h42 qh42 => ?_) (fun h42 qh42 => ?_)))
    ·refine WC.rG 21 (hs40.rm L39) hs40 hs40 (fun _ hs43 => ?_)
     refine WG.rn [0, 1, 2, 3, 4, 5, 6, 7, 8, 9, 10, 11, 12, 13, 14, 15, 16, 17] hs43 [0, 2, 2, 2] rfl rfl ?_
     refine WG.tk 18 rfl (by kernel_rfl) rfl rfl rfl hs43 (fun w_ hs_ => (Run.idx Tryz.runUnderlying26 Tryz.sizeOf75 rfl rfl rfl ?_ ?_ ?_)) ?_
     · exact SlF.some_ (SlF.st0 f_g.Cells (hs_ : St _ _ _ _))
     · first | omega | (simp only [List.length_set]; omega)
     · first | omega | (simp only [List.length_set]; omega)
     refine WG.tk 19 rfl (by kernel_rfl) rfl rfl rfl hs43 (fun w_ hs_ => (Run.loadA Tryz.isAgg75 Tryz.sizeOf75 rfl rfl (SlF.whole (SlF.st0 f_g.Cells (hs_ : St _ _ _ _)) ?_))) ?_
     · first | omega | (simp only [List.length_set]; omega)
     refine WG.tk 20 rfl (by kernel_rfl) rfl rfl rfl hs43 (fun w_ hs_ => (Run.idx Tryz.runUnderlying26 Tryz.sizeOf75 rfl rfl rfl ?_ ?_ ?_)) ?_
     · exact SlF.some_ (SlF.ofOwn ho41 ((hs_ : St _ _ _ _).ow L39))
     · first | omega | (simp only [List.length_set]; omega)
     · first | omega | (simp only [List.length_set]; omega)
     refine WG.oK rfl (WL.storeF1 (x' := _) (hs43.fr L39) ho41 Tryz.sizeOf75 rfl rfl rfl rfl rfl rfl rfl rfl rfl ?_ rfl (fun L44 whs45 hs45 ho46 _ => ?_))
     · first | omega | (simp only [List.length_set]; omega)
     replace hs45 := St.back [_, _, _] hs45
     refine WL.nil ⟨(hs45.rm L44), WH.dn (hK35 _ _ (WC.region (WL.r 3 hs45 [] rfl (WL.nil (tkN ?_)))))⟩
     have hF47 := (St.grp1 (L1 := L44) [_] ((((hs45.fb b2).fb b4).fr L44).fb b22))
     refine ⟨sbF rfl, _, hF47, _, ?_, a + 1, ⟨r.W, r.H, SlD.of ho46⟩, L44, rfl, rfl, ?_, ?_, ?_, ho46, ⟨?_, trivial⟩⟩
     · omega
     · omega
     · exact ⟨p1.1, p1.2.1, by simp only [List.length_set]; exact p1.2.2⟩
     · intro k hk; first | (show gat encCell ((r.Cells.xs.set _ _).set _ _) k = _; rw [List.set_set]; exact part_next (g := g.dat) (by rw [Int.toNat_add (by omega) (by omega), hlo2]; show _ = y.toNat * g.W.toNat + x.toNat + a; omega) (by rw [p1.2.2]; omega) (by rw [shiftF_at (g := g.dat) hx.1 hy.1 (by show x + (a : Int) < g.W; omega), if_pos (by have h9 := h42; simp at h9; show x ≤ x + (a : Int) - (max (min n g.W) (-g.W)) ∧ x + (a : Int) - (max (min n g.W) (-g.W)) < g.W; omega)]; show cat _ _ = cat _ _; congr 1; show _ = y.toNat * g.W.toNat + _; rw [← hlo2]; omega) (p2 k hk)) | (show gat encCell (r.Cells.xs.set _ _) k = _; exact part_next (g := g.dat) (by rw [Int.toNat_add (by omega) (by omega), hlo2]; show _ = y.toNat * g.W.toNat + x.toNat + a; omega) (by rw [p1.2.2]; omega) (by rw [shiftF_at (g := g.dat) hx.1 hy.1 (by show x + (a : Int) < g.W; omega), if_neg (by have h9 := h42; simp at h9; show ¬ (x ≤ x + (a : Int) - (max (min n g.W) (-g.W)) ∧ x + (a : Int) - (max (min n g.W) (-g.W)) < g.W); omega)]) (p2 k hk))
     · (refine congrArg some (congrArg (Value.int _) ?_); omega)
    refine WC.skip (hK35 _ _ (WC.region (WL.r 3 hs40 [] rfl (WL.nil (tkN ?_)))))
    have hF48 := (St.grp1 (L1 := L39) [_] ((((hs40.fb b2).fb b4).fr L39).fb b22))
    refine ⟨sbF rfl, _, hF48, _, ?_, a + 1, ⟨r.W, r.H, SlD.of ho41⟩, L39, rfl, rfl, ?_, ?_, ?_, ho41, ⟨?_, trivial⟩⟩
    · omega
    · omega
    · exact ⟨p1.1, p1.2.1, by simp only [List.length_set]; exact p1.2.2⟩
    · intro k hk; first | (show gat encCell ((r.Cells.xs.set _ _).set _ _) k = _; rw [List.set_set]; exact part_next (g := g.dat) (by rw [Int.toNat_add (by omega) (by omega), hlo2]; show _ = y.toNat * g.W.toNat + x.toNat + a; omega) (by rw [p1.2.2]; omega) (by rw [shiftF_at (g := g.dat) hx.1 hy.1 (by show x + (a : Int) < g.W; omega), if_pos (by have h9 := h42; simp at h9; show x ≤ x + (a : Int) - (max (min n g.W) (-g.W)) ∧ x + (a : Int) - (max (min n g.W) (-g.W)) < g.W; omega)]; show cat _ _ = cat _ _; congr 1; show _ = y.toNat * g.W.toNat + _; rw [← hlo2]; omega) (p2 k hk)) | (show gat encCell (r.Cells.xs.set _ _) k = _; exact part_next (g := g.dat) (by rw [Int.toNat_add (by omega) (by omega), hlo2]; show _ = y.toNat * g.W.toNat + x.toNat + a; omega) (by rw [p1.2.2]; omega) (by rw [shiftF_at (g := g.dat) hx.1 hy.1 (by show x + (a : Int) < g.W; omega), if_neg (by have h9 := h42; simp at h9; show ¬ (x ≤ x + (a : Int) - (max (min n g.W) (-g.W)) ∧ x + (a : Int) - (max (min n g.W) (-g.W)) < g.W); omega)]) (p2 k hk))
    · (refine congrArg some (congrArg (Value.int _) ?_); omega)
   refine WC.exit (hK25 _ _ (WC.sr (WL.r 1 hs32 [0] rfl (WL.st tbk hs32 1 rfl rfl (fun _ hs49 => WL.nil (WC.ret (retV1 rfl (resV.cellA tbk hs49 1 rfl rfl rfl rfl) ?_)))))))
   refine ⟨r, _, rfl, (St.keep1 (hs49.fr L28)), ?_, ?_⟩
   · exact ho29
   · exact shift_done (g := g.dat) (m := (max (min n g.W) (-g.W))) hx hy.1 (by show (a : Int) = g.W - x; omega) p1.1 p1.2.1 p1.2.2 (by show n = _ ∨ (g.W ≤ n ∧ g.W ≤ _ ∨ n ≤ -g.W ∧ _ ≤ -g.W); omega) p2
  refine WC.cq rfl (fun h50 qh50 => ?_) (fun h50 qh50 => ?_)
  ·refine WC.region (WL.r 4 hs11 [1] rfl (WL.nil ?_))
   exact hJ14 _ _ ⟨(congrArg some (congrArg (Value.int .i64) (by omega))), rfl, rfl, rfl, rfl, rfl, rfl, rfl, trivial⟩ hs11
  refine WC.skip ?_
  exact hJ14 _ _ ⟨(congrArg some (congrArg (Value.int .i64) (by omega))), rfl, rfl, rfl, rfl, rfl, rfl, rfl, trivial⟩ hs11
 refine WC.cq rfl (fun h51 qh51 => ?_) (fun h51 qh51 => ?_)
 ·refine WC.region (WL.r 3 hs7 [1] rfl (WL.nil ?_))
  exact hJ10 _ _ ⟨(congrArg some (congrArg (Value.int .i64) (by omega))), rfl, rfl, rfl, rfl, rfl, rfl, trivial⟩ hs7
 refine WC.skip ?_
 exact hJ10 _ _ ⟨(congrArg some (congrArg (Value.int .i64) (by omega))), rfl, rfl, rfl, rfl, rfl, rfl, trivial⟩ hs7
end Go.Proofs.YtjmegoiclgancaaGreat
